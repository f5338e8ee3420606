import Derived.Test.YtmbihgjlollbeaaGreatAbP5
import Derived.Lib.SliceRun
import Derived.Laws.IdiomStrings
set_option linter.all false
namespace Go.Ab
open Go.RowKit (Below)
section
variable {R:Type} {E:Env}
variable{t:TypeId}
theorem Oj{P:Program}{w:World}{ms:Array (String×TypeId)}(hu:P.underlying t=some (.interface ms)){b:Bool}{x:Value}{μ:Ro}(hx:av P μ (.ifc b) x):(Op.equalIn 10000 t x .nilIface).run P w=.ok (!b) w:=by show(Op.equalIn (9999+1) t x .nilIface).run P w=.ok (!b) w;cases hx<;>(unfold Op.equalIn;simp only[Sem.run_bind,run_underlying hu,Result.andThen_ok];rfl)
theorem Jw{P:Program}{w:World}{op:BinOp}{ox:Operand}{c:Value}{b:Bool}{x:Value}{μ:Ro}(hx:av P μ (.ifc b) x):(eqGuard op t ox (.const c) x .nilIface).run P w=.ok () w:=by
 cases hx
 ·rw[eqGuard_nil_constR];rfl
 ·rename_i d z;have:eqGuard op t ox (.const c) (.iface d z) .nilIface=pure ():=by cases op<;>rfl
  rw[this];rfl
theorem acw{op:BinOp}{oy:Operand}{a b:V}{k:PV→Option R}{r:R}(h:Q0 E op t oy a b k=some r):∃q,(∀(R':Type)(k':PV→Option R'),Q0 E op t oy a b k'=k' q)∧k q=some r∧∀(μ:Ro)(φ:Nat→aP)(w:World)(ox:Operand)(x y:Value),(KC oy=true→y=.nilIface)→au E.P μ φ a x→au E.P μ φ b y→∃z,(zg op t ox oy x y).run E.P w=.ok z w∧av E.P μ q z:=by
 unfold Q0 at h⊢;cases hn:KC oy with
 |false=>rw[hn]at h;obtain⟨q,q1,q2,q3⟩:=agP h;exact⟨q,fun R' k'=>q1 R' k',q2,fun μ φ w ox x y _ hx hy=>q3 μ φ w ox oy x y hx hy⟩
 |true=>
  rw[hn]at h;simp only[cond]at h⊢;have hoy:oy=.const .nilIface:=by unfold KC at hn;grind
  subst hoy;unfold abR at h⊢;split at h
  ·rename_i c;split at h
   ·rename_i ms hu;refine⟨_,fun R' k'=>by rfl,h,fun μ φ w ox x y hy hx _=>?_⟩;have:=hy trivial;subst this;cases hx with
    |pv hx=>exact⟨_,ck (Jw hx) (kg (by cases hx<;>rfl) (Oj hu hx)),.bool⟩
   ·rename_i ms hu;refine⟨_,fun R' k'=>by rfl,h,fun μ φ w ox x y hy hx _=>?_⟩;have:=hy trivial;subst this;cases hx with
    |pv hx=>refine⟨_,ck (Jw hx) (kh (by cases hx<;>rfl) (Oj hu hx)),?_⟩;rw[Bool.not_not];exact .bool
   ·cases h
  ·cases h
theorem Ol{P:Program}{μ:Ro}:∀{es:List PV}{b:Bytes}{xs:List Value},H0 es=some b→Cells P μ 1 es xs→b.length=es.length∧xs=b.map fun c=>.int .u8 (c.toNat:Int)
 |[],b,xs,h,hC=>by simp only[H0,cO]at h;subst h;have:=hC.len;simp_all
 |e::es,b,xs,h,hC=>by
  unfold H0 at h;split at h
  ·rename_i he;cases he
  ·rename_i n r he;simp only[ato]at he;obtain⟨rfl,rfl⟩:=he;obtain⟨b',ke,rfl⟩:=aqX.1 h;cases xs with
   |nil=>have:=hC.len;simp at this
   |cons x xs=>
    have hx:x=.int .u8 n∧(Lit.int .u8 n).wf=true:=by
     have:=hC.rep 0 _ 0 _ x rfl rfl rfl;cases this with
     |int hw=>exact⟨rfl,hw⟩
    obtain⟨rfl,hw⟩:=hx;have hC':Cells P μ 1 es xs:=⟨by have:=hC.len;simp at this⊢;omega,fun i e hi=>hC.each (i+1) e (by simpa using hi),fun i e j p y hi hj hy=>hC.rep (i+1) e j p y (by simpa using hi) hj (by grind),fun i y hy=>hC.one (i+1) y (by simpa using hy)⟩;obtain⟨h1,h2⟩:=Ol ke hC';refine⟨by simp[h1],?_⟩;rw[ass,←h2];rw[sC]at hw;grind [IntKind.min,IntKind.max,IntKind.signed,IntKind.bits,UInt8.ofNat,UInt8.toNat_ofNat']
  ·cases h
theorem aad{s d:TypeId}{a:V}{m:Mem}{k:PV→bN→Option R}{r:R}(h:H2 E s d a m k=some r):∃q ft,(∀m2:Mem,(∀x∈ft,m2 x.2=m x.2)→∀(R':Type)(k':PV→bN→Option R'),H2 E s d a m2 k'=k' q ft)∧k q ft=some r∧(∀x∈ft,x.1=false)∧∀(G:Nat→Option (List PV))(w0:bO)(μ:Ro)(φ:Nat→aP)(w:World)(x:Value),aL E.P G w0 μ φ m w→au E.P μ φ a x→∃z,(convert s d x).run E.P w=.ok z w∧av E.P μ q z:=by
 unfold H2 at h;split at h
 ·rename_i e hs hd;split at h
  ·rename_i es ft hu N9;obtain⟨b,hb,hk⟩:=By.1 h;obtain⟨e1,e2,e3⟩:=rY N9;refine⟨.str b,ft,fun m2 db R' k'=>by simp_all[H2,asq],hk,e2,fun G w0 μ φ w x hM hx=>?_⟩;have FL:=e3 _ _ _ _ _ _ _ hM hx;cases FL with
   |none he=>subst he;simp only[H0,cO]at hb;subst hb;exact⟨_,by simp[convert,run_underlying hs,run_underlying hd,run_underlying hu,Conv.bytesToString];rfl,.str (by decide)⟩
   | @some a c xs hC hc hl hm=>obtain⟨h1,h2⟩:=Ol hb hC;subst h2;rw[←h1];refine⟨_,run_convert_bytes_back w s d e a c b hs hu hd fun j hj=>hc j _ (by grind),.str (by omega)⟩
  ·cases h
 ·rename_i Ii;obtain⟨q,q1,q2,q3⟩:=ab5 h;refine⟨q,[],fun m2 _ R' k'=>?_,q2,by simp,fun G w0 μ φ w x _ hx=>q3 μ φ w x hx⟩;simp_all[H2,absurd]
end
structure Bj(E:Env)(draw:Bool)(site:Nat)(o:Oper)(f:Fr)(m:Mem)(v:V)(f':Fr)(m':Mem)(ft:bN):Prop where
 drawn:draw=true→f'=f∧∃wr:List (Nat×bX),m'=Ak wr m∧(∀x∈wr,(true,x.1)∈ft)∧∀(f2:Fr)(m2:Mem),(∀x∈o.op.operands,bR E f2 x=bR E f x)→(∀x∈ft,m2 x.2=m x.2)→∀(R':Type)(k':V→Fr→Mem→bN→Option R'),cR E true site o f2 m2 k'=k' v f2 (Ak wr m2) ft
 same:fW o=true→(∀x∈ft,x.1=false)→f'=f∧m'=m
 sound:∀(w0:bO)(μ:Ro)(φ:Nat→aP)(a:Act)(w:World)(K:Act→World→Prop)(Q:Exit→Act→World→Prop),Rel E.P E.aW E.fn.ntmps w0 μ φ f m a w→(∀y w' μ' φ',aL E.P E.aW w0 μ' φ' m' w'→cp E.P μ' φ' m' f' (cj E.fn.ntmps w0 a)→au E.P μ' φ' v y→(∀id,v.has id=true→(m' id).isSome=true)→K (a.put o.dst y) w')→o.wp E.P a w K Q
def FR(rd:Option Nat):Fence:={Fence.wide with round:=rd}
variable{rd:Option Nat}{P:Program}
theorem FR.agV{m m':Machine}:StepsIn (Machine.fenced P (FR rd)) P m m'↔Steps P m m':=stepsIn_wide (P:=P)
variable{args:Array Value}{w:World}{R:Ending→World→Prop}
theorem FR.Wy{n:Nat}{f:FuncId}(h:Calls P f args w R):CallsIn (FR rd) n P f args w R:=(callsIn_wide (n:=n)).2 h
theorem FR.ajf{n:Nat}{row:String}{R:Value→World→Prop}(h:Rows P row args w R):RowsIn (FR rd) n P row args w R:=fun c cs _=>let⟨v,w',r,s⟩:=h c cs;⟨v,w',r,FR.agV.2 s⟩
theorem FR.agW{n n':Nat}{l:Nat}{f:FuncId}{tmps:Array Value}{assign body:Code}(h:RoundIn Fence.wide n P l f tmps assign body w R):RoundIn (FR rd) n' P l f tmps assign body w R:=⟨trivial,fun c cs _=>h.2 c cs (room_wide _)⟩
theorem Ij{o:Oper}{a:Act}{K:Act→World→Prop}{Q:Exit→Act→World→Prop}(hd:∀c,o.op≠.defer c)(h:o.wp P a w K Q):o.wpIn (FR rd) 0 P a w K Q:=by
 refine⟨fun _ _=>trivial,?_⟩;rw[Oper.semAt_eq _ _ _ hd];unfold Oper.wp at h;cases hr:(execOp a.eval o).run P w with
 |ok nx w'=>
  rw[hr]at h;cases nx with
  |value v=>exact h
  |skip=>exact h
  |defer d=>exact h
  |enter f args=>exact⟨fun h=>(by cases h),FR.Wy h⟩
  |row row args=>exact⟨fun h=>(by cases h),FR.ajf h⟩
  |_=>exact h.elim
 |halt h' w'=>
  rw[hr]at h;cases h' with
  |panic v=>exact h
  |_=>exact h.elim
def Ln{R:Type}(E:Env)(o:Oper)(f:Fr)(m:Mem)(k:V→Fr→Mem→bN→Option R)(r:R):Prop:=
 (∀c x y,o.op≠.pick c x y)∧
 ∀(rd:Option Nat)(w0:bO)(μ:Ro)(φ:Nat→aP)(a:Act)(w:World)(K:Act→World→Prop)(Q:Exit→Act→World→Prop),Aq E.P E.aW E.fn.ntmps E.yl w0→Rel E.P E.aW E.fn.ntmps w0 μ φ f m a w→(∀v f' m' y w' μ' φ',k v f' m' [(true,0)]=some r→aL E.P E.aW w0 μ' φ' m' w'→cp E.P μ' φ' m' f' (cj E.fn.ntmps w0 a)→au E.P μ' φ' v y→(∀id,v.has id=true→(m' id).isSome=true)→K (a.put o.dst y) w')→o.wpIn (FR rd) 0 E.P a w K Q
section
variable {R:Type} {E:Env}
variable{w0:bO}{μ:Ro}{φ:Nat→aP}{f:Fr}{m:Mem}{a:Act}{w:World}
theorem Rel.mS(h:Rel E.P E.aW E.fn.ntmps w0 μ φ f m a w):cp E.P μ φ m f (cj E.fn.ntmps w0 a):=⟨h.fr,h.live⟩
variable{P:Program}{o:Oper}{K:Act→World→Prop}{Q:Exit→Act→World→Prop}
theorem gA{w':World}{y:Value}(hr:(execOp a.eval o).run P w=.ok (.value y) w')(h:K (a.put o.dst y) w'):o.wp P a w K Q:=by unfold Oper.wp;rw[hr];exact h
theorem CS{w':World}(hr:(execOp a.eval o).run P w=.ok .skip w')(h:K (a.put o.dst undef) w'):o.wp P a w K Q:=by unfold Oper.wp;rw[hr];exact h
variable{draw:Bool}{site:Nat}{v:V}
theorem Bj.read{ft:bN}(nat:∀(f2:Fr)(m2:Mem),(∀x∈o.op.operands,bR E f2 x=bR E f x)→(∀x∈ft,m2 x.2=m x.2)→∀(R':Type)(k':V→Fr→Mem→bN→Option R'),cR E true site o f2 m2 k'=k' v f2 m2 ft)(hs:∀(w0:bO)(μ:Ro)(φ:Nat→aP)(a:Act)(w:World),Rel E.P E.aW E.fn.ntmps w0 μ φ f m a w→∃y,(execOp a.eval o).run E.P w=.ok (.value y) w∧au E.P μ φ v y∧∀id,v.has id=true→(m id).isSome=true):Bj E draw site o f m v f m ft:=by refine⟨fun _=>⟨rfl,[],rfl,by simp,nat⟩,fun _ _=>⟨rfl,rfl⟩,fun w0 μ φ a w K Q hR hK=>?_⟩;obtain⟨y,hr,hy,hl⟩:=hs w0 μ φ a w hR;exact gA hr (hK y w μ φ hR.toaL hR.mS hy hl)
variable{m':Mem}
theorem Bj.make{f':Fr}{b:bX}(hd:draw=true→m site=none∧f'=f∧m'=aD m site b)(nat:draw=true→∀(f2:Fr)(m2:Mem),(∀x∈o.op.operands,bR E f2 x=bR E f x)→m2 site=none→∀(R':Type)(k':V→Fr→Mem→bN→Option R'),cR E true site o f2 m2 k'=k' v f2 (aD m2 site b) [(true,site)])(hs:∀(w0:bO)(μ:Ro)(φ:Nat→aP)(a:Act)(w:World),Rel E.P E.aW E.fn.ntmps w0 μ φ f m a w→∃y w' μ' φ',(execOp a.eval o).run E.P w=.ok (.value y) w'∧aL E.P E.aW w0 μ' φ' m' w'∧cp E.P μ' φ' m' f' (cj E.fn.ntmps w0 a)∧au E.P μ' φ' v y∧∀id,v.has id=true→(m' id).isSome=true):Bj E draw site o f m v f' m' [(true,site)]:=by
 refine⟨fun h=>?_,fun _ h=>by simp_all,fun w0 μ φ a w K Q hR hK=>?_⟩
 ·obtain⟨h1,h2,h3⟩:=hd h;exact⟨h2,[(site,b)],h3,by simp,fun f2 m2 hf hm R' k'=>nat h f2 m2 hf (by simp_all) R' k'⟩
 grind [gA]
variable{args:Array Operand}
theorem nQ(h:Rel E.P E.aW E.fn.ntmps w0 μ φ f m a w):(args.toList.map (bR E f)).length=(args.map a.eval).size∧∀(i:Nat)v x,(args.toList.map (bR E f))[i]?=some v→(args.map a.eval)[i]?=some x→au E.P μ φ v x:=by refine⟨by simp,fun i v x hv hx=>?_⟩;simp only[AT,aqX]at hv;obtain⟨o,ho,rfl⟩:=hv;grind [Option.some.injEq,aA]
theorem vN(h:Rel E.P E.aW E.fn.ntmps w0 μ φ f m a w){args:List Operand}{id:Nat}(hid:cA id (args.map (bR E f))=true):(m id).isSome=true:=by obtain⟨v,hv,hh⟩:=cW.1 hid;obtain⟨o,_,rfl⟩:=asC.1 hv;exact(aA h o).2 id hh
theorem sI{f2:Fr}{l:List Operand}(h:∀x∈l,bR E f2 x=bR E f x):l.map (bR E f2)=l.map (bR E f):=asJ h
theorem yC{f2:Fr}{l:List (Nat×Operand)}(h:∀x∈l,bR E f2 x.2=bR E f x.2):(l.map fun(x:Nat×Operand)=>(x.1,bR E f2 x.2))=l.map fun(x:Nat×Operand)=>(x.1,bR E f x.2):=asJ fun x hx=>by rw[h x hx]
variable{g:FuncId}
theorem EB{fn:Func}{c:Code}(hf:P.funcs[g]?=some fn)(aio:(fn.name== "runtime.NumGoroutine")=false)(hb:fn.body=some c){args:Array Value}:(callFunc g args).run P w=.ok (.enter g args) w:=by simp_all[callFunc]
theorem wz{b:Bool}{x:Value}(h:au P μ φ (.pv (.bool b)) x):x=.bool b:=by cases h with|pv h=>cases h;rfl
theorem acx{p:PV}(h:KB dq v=some (p,m'))(m:Mem):KB m v=some (p,m):=by unfold KB at h⊢;grind [Option.some.injEq,Prod.mk.injEq,dq]
theorem Ik:∀{cs:List V}{ps:List PV}{m':Mem},pj dq cs=some (ps,m')→∀m:Mem,pj m cs=some (ps,m)
 |[],ps,m',h,m=>by simp only[pj,cO,amn]at h;rw[←h.1];rfl
 |c::r,ps,m',h,m=>by
  simp only[pj]at h;split at h
  ·rename_i p m1 h1;have e1:=wq h1;subst e1;split at h
   ·rename_i ps1 m2 h2;simp only[cO,amn]at h;simp only[pj,acx h1 m,Ik h2 m,h.1]
   ·cases h
  ·cases h
theorem Jx:∀{cs:List V}{ps:List PV}{m':Mem},pj dq cs=some (ps,m')→m'=dq
 |[],ps,m',h=>by simp_all[pj,cO,amn]
 |c::r,ps,m',h=>by
  simp only[pj]at h;split at h
  ·rename_i p m1 h1;have e1:=wq h1;subst e1;split at h
   ·rename_i ps1 m2 h2;simp only[cO,amn]at h;rw[←h.2];exact Jx h2
   ·cases h
  ·cases h
theorem Rv{n:Nat}{agg:Bool}{p:PV}(h:mM dq n agg v=some (p,m')):m'=dq∧∀m:Mem,mM m n agg v=some (p,m):=by
 unfold mM at h;split at h
 ·rename_i cs hc;split at h
  ·rename_i ps m1 h1;have e1:=Jx h1;subst e1;cases agg with
   |true=>simp only[BY,cO,amn]at h;refine⟨h.2.symm,fun m=>?_⟩;unfold mM;simp only[hc,Ik h1 m,BY,h.1]
   |false=>
    simp only[cQ,IT]at h;split at h
    ·simp only[cO,amn]at h;refine⟨h.2.symm,fun m=>?_⟩;unfold mM;simp only[hc,Ik h1 m,cQ,IT,h.1]
    ·cases h
  ·cases h
 ·cases h
theorem wA{n:Nat}{agg:Bool}:∀{parts:List (Nat×V)}{i:Nat}{ps:List PV}{m':Mem},fP dq n agg i parts=some (ps,m')→m'=dq∧∀m:Mem,fP m n agg i parts=some (ps,m)
 |[],i,ps,m',h=>by simp_all[fP,cO,amn]
 |(j,v)::r,i,ps,m',h=>by
  simp only[fP]at h;split at h
  ·rename_i Uc;split at h
   ·rename_i p m1 h1;obtain⟨e1,e2⟩:=Rv h1;subst e1;split at h
    ·rename_i ps1 m2 h2;obtain⟨e3,e4⟩:=wA h2;simp_all[cO,amn,fP,IN]
    ·cases h
   ·cases h
  ·cases h
def G0(g:FuncId)(xs ys:Array Value):Array Value:=bif Nat.blt g KA then ys++xs else xs++ys
theorem Wz{caps args:List V}{xs ys:Array Value}(e1:args.length=ys.size)(h1:∀(i:Nat)v x,args[i]?=some v→ys[i]?=some x→au P μ φ v x)(e2:caps.length=xs.size)(h2:∀(i:Nat)v x,caps[i]?=some v→xs[i]?=some x→au P μ φ v x):(FD g caps args).length=(G0 g xs ys).size∧∀(i:Nat)v x,(FD g caps args)[i]?=some v→(G0 g xs ys)[i]?=some x→au P μ φ v x:=by unfold FD G0;grind
theorem acy{caps args:List V}(h:v∈FD g caps args):v∈args∨v∈caps:=by unfold FD at h;grind
theorem acz(g:FuncId)(xs:Array Value):GR (g+KA) xs=.func (.func g) xs #[]:=by simp[GR,IS,Nat.le_add_left,atw]
theorem Bk{site:Nat}:∀{ts:List TypeId}{j:Nat}{F:Fr}{m:Mem}{k:Fr→Mem→Option R}{r:R},El E site ts j F m k=some r→∃F' m',k F' m'=some r∧∀(G:Nat→Option (List PV))(w0:bO)(μ:Ro)(φ:Nat→aP)(w:World)(ρ:Nat→Value),aL E.P G w0 μ φ m w→cp E.P μ φ m F ρ→∃φ',aL E.P G w0 μ φ' m' w∧cp E.P μ φ' m' F' ρ
 |[],j,F,m,k,r,h=>⟨F,m,h,fun G w0 μ φ w ρ hM hF=>⟨φ,hM,hF⟩⟩
 |t::ts,j,F,m,k,r,h=>by
  simp only[El]at h;split at h
  ·rename_i hj;split at h
   ·rename_i e hu;split at h
    ·rename_i eS;obtain⟨f1,m1,hn,hk,CA,Fb,Ce⟩:=eM h;obtain⟨F',m',c1,c2⟩:=Bk hk;refine⟨F',m',c1,fun G w0 μ φ w ρ hM hF=>?_⟩;obtain⟨φ',a1,a2,a3⟩:=Ce E.P G w0 μ φ w w ρ (JY none 0 0 (bj E.P e)) hM hF ⟨nD.refl _ _,hM.ro,fun _ _ _ _ _=>rfl,by simp,fun φ' hp _=>by refine⟨by rw[hp];rfl,by rw[hp],rfl,eS,by simp,by rw[hp];simp[maxLen],?_⟩;simp_all,by simp[bX.names],fun st h=>by cases h⟩;have hv:ρ j=.slice none 0 0:=by have:=hF.fr j;rw[hj]at this;generalize ρ j=y at this;cases this;rfl
     refine c2 G w0 μ φ' w ρ a2 ⟨fun s=>?_,fun s id hid=>?_⟩
     ·by_cases e:s=j
      ·subst e;rw[show ij f1 s (.os (An site s)) s=.os (An site s) by simp_all,hv];exact .yp (by rw[a1])
      ·rw[wj e];exact a3.fr s
     ·by_cases e:s=j
      ·subst e;rw[show ij f1 s (.os (An site s)) s=.os (An site s) by simp_all]at hid;have hid:=Ka hid;subst hid;simp[CA]
      ·rw[wj e]at hid;exact a3.live s id hid
    ·cases h
   ·cases h
  ·exact Bk h
variable{k:V→Fr→Mem→bN→Option R}{r:R}
theorem agX(hE:mb E)(h:cR E draw site o f m k=some r)(hc:∀c,o.op≠.call c)(hb:∀op t x y ty s es,o.op=.binOp op t x y ty→bR E f x=.pv (.rs s es)→bR E f y≠.jC)(hit:TX o.op=false):∃v f' m' ft,k v f' m' ft=some r∧Bj E draw site o f m v f' m' ft:=by
 obtain⟨dst,op,type,pos,after,guard⟩:=o;unfold cR at h;cases op<;>simp only at h;case move x=>refine⟨_,_,_,_,h,.read (fun f2 m2 hf _ R' k'=>by simp only[cR];rw[hf x (by simp[Op.operands])]) fun w0 μ φ a w hR=>⟨_,rfl,(aA hR x).1,(aA hR x).2⟩⟩
 case pick c x y=>
  split at h
  ·rename_i t hc;cases t with
   |true=>simp only[BY]at h;refine⟨_,_,_,_,h,.read (fun f2 m2 hf _ R' k'=>by simp only[cR];rw[hf c (by simp[Op.operands]),hf x (by simp[Op.operands]),hc];simp) fun w0 μ φ a w hR=>?_⟩;have h1:=(aA hR c).1;rw[hc]at h1;exact⟨a.eval x,by simp[execOp,Go.asBool,wz h1],(aA hR x).1,(aA hR x).2⟩
   |false=>simp only[cQ,IT]at h;refine⟨_,_,_,_,h,.read (fun f2 m2 hf _ R' k'=>by simp only[cR];rw[hf c (by simp[Op.operands]),hf y (by simp[Op.operands]),hc];simp) fun w0 μ φ a w hR=>?_⟩;have h1:=(aA hR c).1;rw[hc]at h1;exact⟨a.eval y,by simp[execOp,Go.asBool,wz h1],(aA hR y).1,(aA hR y).2⟩
  ·cases h
 case assign x=>
  have mk:∀{v},bR E f x=v→(v=.jC→∀e,E.P.underlying type≠some (.slice e))→k v f m []=some r→∃v f' m' ft,k v f' m' ft=some r∧Bj E draw site {dst,op:=.assign x,type,pos,after,guard} f m v f' m' ft:=by
   intro v hv cV hk;refine⟨v,f,m,[],hk,.read (fun f2 m2 hf _ R' k'=>?_) fun w0 μ φ a w hR=>⟨_,rfl,hv▸(aA hR x).1,hv▸(aA hR x).2⟩⟩;simp only[cR];rw[hf x (by simp[Op.operands]),hv];cases v<;>try rfl
   simp only;split
   ·rename_i e hu;exact absurd hu (cV rfl e)
   ·rfl
  split at h
  ·rename_i hx;split at h
   ·rename_i e hu;split at h
    ·rename_i eS;obtain⟨f',m',hn,hk,CA,Fb,Ce⟩:=eM h;refine⟨_,_,_,_,hk,.make Fb (fun _ f2 m2 hf hs R' k'=>?_) fun w0 μ φ a w hR=>?_⟩
     ·simp only[cR];rw[hf x (by simp[Op.operands]),hx];simp only[hu,eS,BY,fresh,hs]
     ·have h1:=(aA hR x).1;rw[hx]at h1;obtain⟨φ',a1,a2,a3⟩:=Ce E.P E.aW w0 μ φ w w _ (JY none 0 0 (bj E.P e)) hR.toaL hR.mS ⟨nD.refl _ _,hR.ro,fun _ _ _ _ _=>rfl,by simp,fun φ' hp _=>by refine⟨by rw[hp];rfl,by rw[hp],rfl,eS,by simp,by rw[hp];simp[maxLen],?_⟩;rw[hp];exact⟨rfl,rfl⟩,by simp[bX.names],fun st h=>by cases h⟩;refine⟨.slice none 0 0,w,μ,φ',?_,a2,a3,.yp (by rw[a1]),fun id hid=>?_⟩
      ·simp only[execOp,Sem.run_pure];generalize a.eval x=y at h1;cases h1;rfl
      ·have hid:=Ka hid;subst hid;simp[CA]
    ·cases h
   ·rename_i hu;exact mk hx (fun _ e he=>hu e he) h
  ·rename_i hx;exact mk rfl (fun he=>absurd he hx) h
 case alloc t=>
  split at h
  ·rename_i cs hz;obtain⟨i,zv,z1,z2,z3,z4,z5,z6,z7,z8⟩:=fb hz;cases Rk:E.Kc site with
   |true=>
    rw[Rk]at h;simp only[cond_true]at h;split at h
    ·rename_i n e ps hu tU;split at h
     ·rename_i hcc;obtain⟨ha,hl,eS,ap0⟩:=hcc;obtain⟨f',m',hn,hk,CA,Fb,Ce⟩:=eM h;obtain⟨q1,q2⟩:=iZ tU;have A2:(fZ (bj E.P e) n (.agg ps)).length=n:=by simp[fZ]
      refine⟨_,_,_,_,hk,.make Fb (fun _ f2 m2 hf hs R' k'=>by simp only[cR,hz,Rk,hu,tU,cond_true];rw[IN ⟨ha,hl,eS,ap0⟩];simp only[fresh,hs]) fun w0 μ φ a w hR=>?_⟩;have pk:av E.P μ (.agg ps) (.agg zv.cells):=.agg (by omega) (fun i p x hp hx=>by obtain⟨v,hv,hpo⟩:=q2 i p hp;have:=z7 μ φ i v x hv hx;cases v<;>simp[pvO]at hpo;subst hpo;cases this with|pv h=>exact h) z8;have hC:Cells E.P μ (bj E.P e) (fZ (bj E.P e) n (.agg ps)) (zv.cells.toList.take ((fZ (bj E.P e) n (.agg ps)).length*bj E.P e)):=by
       refine⟨by rw[A2];simp;omega,fun i e' he'=>?_,fun i e' j p y hi hj hy=>?_,fun i y hy=>z8 i y (by simpa using(jH hy).2)⟩
       ·obtain⟨_,rfl⟩:=FK he';exact zk
       ·obtain⟨x',x1,x2,_⟩:=N8 (k:=i*bj E.P e+j) pk (by omega) hi hj rfl;have:=(jH hy).2;rw[asX,x1]at this;cases this;exact x2
      obtain⟨φ',a1,a2,a3⟩:=Ce E.P E.aW w0 μ φ w _ _ (JY (some w.heap.size) n (fZ (bj E.P e) n (.agg ps)).length (bj E.P e)) hR.toaL hR.mS (nA.alloc (o:=.cells zv.cells t) hR.toaL rfl (fun φ' hp _=>aX.tH (g:=w.heap.size) (by rw[hp]) rfl eS (by rw[hp];simp only[maxLen,JY];omega) (gq w _) (by rw[hp];simp only[JY];omega) (by rw[hp,A2];exact ast _) hC) (by simp[bX.names]));refine⟨.pointer (some ⟨w.heap.size,0,none⟩),w.alloc (.cells zv.cells t),μ,φ',by simp[execOp,Ic z1 z2],a2,a3,?_,fun id hid=>?_⟩
      ·have:=au.oe (P:=E.P) (μ:=μ) (φ:=φ') (id:=site) (i:=0) (off:=0) (g:=w.heap.size) (by rw[a1]);simpa using this
      ·have hid:=Ka hid;subst hid;simp[CA]
     ·cases h
    ·cases h
   |false=>
   rw[Rk]at h;simp only[cond_false]at h;split at h
   ·rename_i hdn;have hdf:draw=false:=by simp only[amm,asO]at hdn;exact hdn.1
    obtain⟨F,m1,g1,g2⟩:=Bk h;obtain⟨f',m',hn,hk,CA,Fb,Ce⟩:=eM g1;refine⟨_,_,_,_,hk,⟨fun hd=>(by rw[hdf]at hd;cases hd),fun _ h=>(by have:=h (true,site) (by simp);cases this),fun w0 μ φ a w K Q hR hK=>?_⟩⟩;have x1:cs.length=zv.cells.size:=by omega
    have x2:=z7 μ φ;have x3:=z8;have hF0:cp E.P μ φ m (B2 cs.length cs f) (fun t=>if t<cs.length then zv.cells.getD t undef else cj E.fn.ntmps w0 a (t-cs.length)):=by
     refine⟨fun t=>?_,fun t id hid=>?_⟩
     ·unfold B2;by_cases ht:t<cs.length
      ·rw[show Nat.blt t cs.length=true by rw[atl];exact ht,IN ht];show au E.P μ φ (cs.getD t .top) _;have hx:t<zv.cells.size:=by omega
       rw[show cs.getD t .top=cs[t] by simp[List.getD,ht],show zv.cells.getD t undef=zv.cells[t] by simp[Array.getD,hx]];exact x2 t _ _ (cN ht) (aiX hx)
      ·rw[show Nat.blt t cs.length=false by rw[←atj,atl];exact ht,IS ht];exact hR.mS.fr _
     ·unfold B2 at hid;cases e:Nat.blt t cs.length with
      |true=>
       rw[e]at hid;have ht:t<cs.length:=by rwa[atl]at e
       have hid:(cs.getD t .top).has id=true:=hid;rw[show cs.getD t .top=cs[t] by simp[List.getD,ht]]at hid;exact absurd (bZ (aqW ht) hid) (by rw[z6];simp)
      |false=>rw[e]at hid;exact hR.mS.live _ id hid
    obtain⟨φ1,Bg,J1⟩:=g2 E.aW w0 μ φ w _ hR.toaL hF0;have hF2:cp E.P μ φ1 m1 (CF cs.length F) (cj E.fn.ntmps w0 a):=by refine⟨fun t=>?_,fun t id hid=>J1.live _ id hid⟩;have:=J1.fr (t+cs.length);rw[IS (by omega),atw]at this;exact this
    have Ur:∀(i:Nat)u y,((List.range cs.length).map F)[i]?=some u→zv.cells[i]?=some y→au E.P μ φ1 u y:=fun i u y hu hy=>by
     have hi:i<cs.length:=by have:=(OF.1 hu).1;simpa using this
     have wh:F i=u:=by simpa[hi]using hu
     have:=J1.fr i;rw[IN hi,wh,show zv.cells.getD i undef=y by simp[asu,hy]]at this;exact this
    obtain⟨φ',a1,a2,a3⟩:=Ce E.P E.aW w0 μ φ1 w _ _ _ Bg hF2 (nA.box (T:=t) Bg (c:=zv.cells) (by simp;omega) Ur x3 (fun id hid=>by obtain⟨u,hu,hh⟩:=cW.1 hid;obtain⟨i,_,rfl⟩:=asC.1 hu;exact J1.live i id hh));refine gA (y:=.pointer (some ⟨w.heap.size,0,none⟩)) (w':=w.alloc (.cells zv.cells t)) (by simp[execOp,Ic z1 z2]) (hK _ _ μ φ' a2 a3 (.op (by rw[a1])) fun id hid=>?_);have hid:=Ka hid;subst hid;simp[CA]
   rename_i hdn;have h:fresh draw site (.box cs) f m (fun f m ft=>k (.op site 0) f m ft)=some r:=h;obtain⟨f',m',hn,hk,CA,Fb,Ce⟩:=eM h;refine⟨_,_,_,_,hk,.make Fb (fun _ f2 m2 hf hs R' k'=>by simp only[cR,hz,Rk,cond_false,fresh,hs,ahX,atU,cQ,IT]) fun w0 μ φ a w hR=>?_⟩;obtain⟨φ',a1,a2,a3⟩:=Ce E.P E.aW w0 μ φ w _ _ _ hR.toaL hR.mS (nA.box (T:=t) hR.toaL (c:=zv.cells) (by omega) (z7 μ φ) z8 (fun id hid=>by rw[z6]at hid;cases hid));refine⟨.pointer (some ⟨w.heap.size,0,none⟩),w.alloc (.cells zv.cells t),μ,φ',by simp[execOp,Ic z1 z2],a2,a3,.op (by rw[a1]),fun id hid=>?_⟩;have hid:=Ka hid;subst hid;simp[CA]
  ·cases h
 case box t x=>
  split at h
  ·rename_i cs hc;obtain⟨n1,n2,n3⟩:=toCells_ok hc;split at h
   ·rename_i hdn;have hdf:draw=false:=by simp only[amm,asO]at hdn;exact hdn.1
    split at h
    ·rename_i ts hts;split at h
     ·rename_i hlen;obtain⟨F,m1,g1,g2⟩:=Bk h;obtain⟨f',m',hn,hk,CA,Fb,Ce⟩:=eM g1;refine⟨_,_,_,_,hk,⟨fun hd=>(by rw[hdf]at hd;cases hd),fun _ h=>(by have:=h (true,site) (by simp);cases this),fun w0 μ φ a w K Q hR hK=>?_⟩⟩;obtain⟨h1,h2⟩:=aA hR x;obtain⟨x1,x2,x3⟩:=n3 _ _ _ _ h1;have hF0:cp E.P μ φ m (B2 cs.length cs f) (fun t=>if t<cs.length then(a.eval x).cells.getD t undef else cj E.fn.ntmps w0 a (t-cs.length)):=by
       refine⟨fun t=>?_,fun t id hid=>?_⟩
       ·unfold B2;by_cases ht:t<cs.length
        ·rw[show Nat.blt t cs.length=true by rw[atl];exact ht,IN ht];show au E.P μ φ (cs.getD t .top) _;have hx:t<(a.eval x).cells.size:=by omega
         rw[show cs.getD t .top=cs[t] by simp[List.getD,ht],show(a.eval x).cells.getD t undef=(a.eval x).cells[t] by simp[Array.getD,hx]];exact x2 t _ _ (cN ht) (aiX hx)
        ·rw[show Nat.blt t cs.length=false by rw[←atj,atl];exact ht,IS ht];exact hR.mS.fr _
       ·unfold B2 at hid;cases e:Nat.blt t cs.length with
        |true=>
         rw[e]at hid;have ht:t<cs.length:=by rwa[atl]at e
         have hid:(cs.getD t .top).has id=true:=hid;rw[show cs.getD t .top=cs[t] by simp[List.getD,ht]]at hid;exact h2 id (n2 id (bZ (aqW ht) hid))
        |false=>rw[e]at hid;exact hR.mS.live _ id hid
      obtain⟨φ1,Bg,J1⟩:=g2 E.aW w0 μ φ w _ hR.toaL hF0;have hF2:cp E.P μ φ1 m1 (CF cs.length F) (cj E.fn.ntmps w0 a):=by refine⟨fun t=>?_,fun t id hid=>J1.live _ id hid⟩;have:=J1.fr (t+cs.length);rw[IS (by omega),atw]at this;exact this
      have Ur:∀(i:Nat)u y,((List.range cs.length).map F)[i]?=some u→(a.eval x).cells[i]?=some y→au E.P μ φ1 u y:=fun i u y hu hy=>by
       have hi:i<cs.length:=by have:=(OF.1 hu).1;simpa using this
       have wh:F i=u:=by simpa[hi]using hu
       have:=J1.fr i;rw[IN hi,wh,show(a.eval x).cells.getD i undef=y by simp[asu,hy]]at this;exact this
      obtain⟨φ',a1,a2,a3⟩:=Ce E.P E.aW w0 μ φ1 w _ _ _ Bg hF2 (nA.box (T:=t) Bg (c:=(a.eval x).cells) (by simp;omega) Ur x3 (fun id hid=>by obtain⟨u,hu,hh⟩:=cW.1 hid;obtain⟨i,_,rfl⟩:=asC.1 hu;exact J1.live i id hh));refine gA (y:=.pointer (some ⟨w.heap.size,0,none⟩)) (w':=w.alloc (.cells (a.eval x).cells t)) (by simp[execOp,Wp]) (hK _ _ μ φ' a2 a3 (.op (by rw[a1])) fun id hid=>?_);have hid:=Ka hid;subst hid;simp[CA]
     ·cases h
    ·cases h
   rename_i hdn;have h:fresh draw site (.box cs) f m (fun f m ft=>k (.op site 0) f m ft)=some r:=h;have hdn:draw=true→(!true&&cs.any abV)=false:=fun _=>rfl;obtain⟨f',m',hn,hk,CA,Fb,Ce⟩:=eM h;refine⟨_,_,_,_,hk,.make Fb (fun _ f2 m2 hf hs R' k'=>by simp only[cR];rw[hf x (by simp[Op.operands])];simp only[hc,fresh,hs,ahX,atU,cQ,IT]) fun w0 μ φ a w hR=>?_⟩;obtain⟨h1,h2⟩:=aA hR x;obtain⟨x1,x2,x3⟩:=n3 _ _ _ _ h1;obtain⟨φ',a1,a2,a3⟩:=Ce E.P E.aW w0 μ φ w _ _ _ hR.toaL hR.mS (nA.box (T:=t) hR.toaL (c:=(a.eval x).cells) (by omega) x2 x3 (fun id hid=>h2 id (n2 id hid)));refine⟨.pointer (some ⟨w.heap.size,0,none⟩),w.alloc (.cells (a.eval x).cells t),μ,φ',by simp[execOp,Wp],a2,a3,.op (by rw[a1]),fun id hid=>?_⟩;have hid:=Ka hid;subst hid;simp[CA]
  ·cases h
 case build t parts=>obtain⟨v,v1,v2,v3,v4⟩:=Z1 h;have Uq:∀f2:Fr,(∀x∈(Op.build t parts).operands,bR E f2 x=bR E f x)→(parts.toList.map fun(x:Nat×Operand)=>(x.1,bR E f2 x.2))=parts.toList.map fun(x:Nat×Operand)=>(x.1,bR E f x.2):=fun f2 hf=>yC fun x hx=>hf x.2 (by simp only[Op.operands,at4,asC];exact⟨x,hx,rfl⟩);refine⟨_,_,_,_,v2,.read (fun f2 m2 hf _ R' k'=>by simp only[cR];rw[Uq f2 hf];exact v1 _ _) fun w0 μ φ a w hR=>?_⟩;obtain⟨z,z1,z2⟩:=v4 μ φ w (parts.map fun(i,x)=>(i,a.eval x)) (by simp) (fun j i v hj=>by simp only[AT,aqX]at hj;obtain⟨y,hy,he⟩:=hj;simp only[amn]at he;obtain⟨rfl,rfl⟩:=he;refine⟨a.eval y.2,?_,(aA hR y.2).1⟩;rw[Array.getElem?_map,←asX,hy];rfl);refine⟨z,by simp only[execOp,Sem.run_bind,z1,Result.andThen_ok,Sem.run_pure],z2,fun id hid=>?_⟩;have h5:=v3 id hid;rw[atZ]at h5;obtain⟨u,hu,hh⟩:=cW.1 h5;obtain⟨y,hy,rfl⟩:=asC.1 hu;exact(aA hR y.2).2 id hh
 case load t x=>obtain⟨v,ft,v1,v2,v3,v4⟩:=Rc h;refine⟨_,_,_,_,v2,.read (fun f2 m2 hf hm R' k'=>by simp only[cR];rw[hf x (by simp[Op.operands])];exact v1 m2 hm _ _) fun w0 μ φ a w hR=>?_⟩;obtain⟨y,y1,y2,y3⟩:=v4 _ _ _ _ _ _ hR.toaL (aA hR x).1;exact⟨y,by simp[execOp,y1],y2,y3⟩
 case store t x y=>
  obtain⟨m',ft,k1,k2,k3,k4⟩:=ZY h;refine⟨_,_,_,_,k1,⟨fun hd=>?_,fun h _=>by(simp[fW]at h),fun w0 μ φ a w K Q hR hK=>?_⟩⟩
  ·obtain⟨id,b,rfl,rfl,d3⟩:=k2 hd;refine⟨rfl,[(id,b)],rfl,by simp,fun f2 m2 hf hm R' k'=>?_⟩;simp only[cR];rw[hf x (by simp[Op.operands]),hf y (by simp[Op.operands])];exact d3 m2 (hm (true,id) (by simp)) _ _
  ·obtain⟨w',μ',s1,s2,s3⟩:=k4 _ _ _ _ _ _ _ hR.toaL (aA hR x).1 (aA hR y).1 (aA hR y).2;exact CS (by simp[execOp,s1]) (hK undef w' μ' φ s3 (hR.mS.pP s2 k3) .top (by simp))
 case nilCheck x=>
  have key:∀{v},bR E f x=v→(∀(μ:Ro)(φ:Nat→aP)y,au E.P μ φ v y→(∃ad,y=.pointer (some ad))∨∃g xs ys,y=.func (.func g) xs ys)→k v f m []=some r→(∀(R':Type)(k':V→Fr→Mem→bN→Option R')(f2:Fr)(m2:Mem),bR E f2 x=v→cR E true site {dst,op:=.nilCheck x,type,pos,after,guard} f2 m2 k'=k' v f2 m2 [])→∃v f' m' ft,k v f' m' ft=some r∧Bj E draw site {dst,op:=.nilCheck x,type,pos,after,guard} f m v f' m' ft:=by
   intro v hv hp hk hn;refine⟨v,f,m,[],hk,.read (fun f2 m2 hf _ R' k'=>hn R' k' f2 m2 (by rw[hf x (by simp[Op.operands]),hv])) fun w0 μ φ a w hR=>?_⟩;obtain⟨h1,h2⟩:=aA hR x;rw[hv]at h1 h2;refine⟨a.eval x,?_,h1,h2⟩;rcases hp μ φ _ h1 with⟨ad,e⟩|⟨g,xs,ys,e⟩
   ·simp only[execOp,e];rfl
   ·simp only[execOp,e];rfl
  split at h
  ·rename_i cs hx;exact key hx (fun μ φ y hy=>by cases hy with|pv hy=>cases hy;exact .inl ⟨_,rfl⟩) h fun R' k' f2 m2 e=>by simp only[cR,e]
  ·rename_i id off hx;exact key hx (fun μ φ y hy=>by cases hy;exact .inl ⟨_,rfl⟩) h fun R' k' f2 m2 e=>by simp only[cR,e]
  ·rename_i id i off hx;exact key hx (fun μ φ y hy=>by cases hy;exact .inl ⟨_,rfl⟩) h fun R' k' f2 m2 e=>by simp only[cR,e]
  ·rename_i id i off s j off2 hx;exact key hx (fun μ φ y hy=>by cases hy;exact .inl ⟨_,rfl⟩) h fun R' k' f2 m2 e=>by simp only[cR,e]
  ·rename_i g cs hx;exact key hx (fun μ φ y hy=>by cases hy;exact .inr (we _ _)) h fun R' k' f2 m2 e=>by simp only[cR,e]
  ·rename_i g cs hx;exact key hx (fun μ φ y hy=>by cases hy with|pv hy=>cases hy;exact .inr (we _ _)) h fun R' k' f2 m2 e=>by simp only[cR,e]
  ·cases h
 case binOp op t x y ty=>
  have Au:∀(f2:Fr)(m2:Mem)(R':Type)(k':V→Fr→Mem→bN→Option R')(d:Bool),bR E f2 x=bR E f x→bR E f2 y=bR E f y→cR E d site ⟨dst,.binOp op t x y ty,type,pos,after,guard⟩ f2 m2 k'=Q0 E op t y (bR E f x) (bR E f y) fun p=>k' (.pv p) f2 m2 []:=by
   intro f2 m2 R' k' d e1 e2;simp only[cR];rw[e1,e2];split
   ·rename_i s es h1 h2;exact absurd h2 (hb op t x y ty s es rfl h1)
   ·rfl
  have h:cR E draw site ⟨dst,.binOp op t x y ty,type,pos,after,guard⟩ f m k=some r:=by simp only[cR];exact h
  rw[Au f m R k draw rfl rfl]at h;obtain⟨q,q1,q2,q3⟩:=acw h;refine⟨_,_,_,_,q2,.read (fun f2 m2 hf hm R' k'=>by rw[Au f2 m2 R' k' true (hf x (by simp[Op.operands])) (hf y (by simp[Op.operands]))];exact q1 _ _) fun w0 μ φ a w hR=>?_⟩;obtain⟨z,z1,z2⟩:=q3 μ φ w x _ _ (fun hn=>by
   unfold KC at hn;split at hn
   ·rfl
   ·cases hn) (aA hR x).1 (aA hR y).1
  exact⟨z,by simp only[zg]at z1;simp only[execOp,Sem.run_bind,Sem.run_pure]at z1⊢;rw[z1];rfl,.pv z2,by simp⟩
 case unOp op t x=>obtain⟨q,q1,q2,q3⟩:=ai7 h;refine⟨_,_,_,_,q2,.read (fun f2 m2 hf hm R' k'=>by simp only[cR];rw[hf x (by simp[Op.operands])];exact q1 _ _) fun w0 μ φ a w hR=>?_⟩;obtain⟨z,z1,z2⟩:=q3 E.P μ φ w _ (aA hR x).1;exact⟨z,by simp[execOp,z1],.pv z2,by simp⟩
 case convert s d x=>obtain⟨q,ft,q1,q2,_,q3⟩:=aad h;refine⟨_,_,_,_,q2,.read (fun f2 m2 hf hm R' k'=>by simp only[cR];rw[hf x (by simp[Op.operands])];exact q1 m2 hm _ _) fun w0 μ φ a w hR=>?_⟩;obtain⟨z,z1,z2⟩:=q3 _ _ μ φ w _ hR.toaL (aA hR x).1;exact⟨z,by simp[execOp,z1],.pv z2,by simp⟩
 case fieldAddr s x j=>obtain⟨v,v1,v2,v3,v4⟩:=Nj h;refine⟨_,_,_,_,v2,.read (fun f2 m2 hf hm R' k'=>by simp only[cR];rw[hf x (by simp[Op.operands])];exact v1 _ _) fun w0 μ φ a w hR=>?_⟩;obtain⟨z,z1,z2⟩:=v4 μ φ w _ (aA hR x).1;exact⟨z,by simp[execOp,z1],z2,fun id hid=>(aA hR x).2 id (by rw[←v3];exact hid)⟩
 case field s x j=>obtain⟨v,v1,v2,v3,v4⟩:=ZQ h;refine⟨_,_,_,_,v2,.read (fun f2 m2 hf hm R' k'=>by simp only[cR];rw[hf x (by simp[Op.operands])];exact v1 _ _) fun w0 μ φ a w hR=>?_⟩;obtain⟨z,z1,z2⟩:=v4 μ φ w _ (aA hR x).1;exact⟨z,by simp[execOp,z1],z2,fun id hid=>(aA hR x).2 id (v3 id hid)⟩
 case indexAddr t x ix=>obtain⟨v,ft,v1,v2,v3,v4,v5⟩:=Nk h;refine⟨_,_,_,_,v2,.read (fun f2 m2 hf hm R' k'=>by simp only[cR];rw[hf x (by simp[Op.operands]),hf ix (by simp[Op.operands])];exact v1 m2 hm _ _) fun w0 μ φ a w hR=>?_⟩;obtain⟨z,z1,z2⟩:=v5 _ _ μ φ w _ _ hR.toaL (aA hR x).1 (aA hR ix).1;exact⟨z,by simp[execOp,z1],z2,fun id hid=>(aA hR x).2 id (v4 id hid)⟩
 case index t x ix=>obtain⟨v,v1,v2,v3,v4⟩:=ZR h;refine⟨_,_,_,_,v2,.read (fun f2 m2 hf hm R' k'=>by simp only[cR];rw[hf x (by simp[Op.operands]),hf ix (by simp[Op.operands])];exact v1 _ _) fun w0 μ φ a w hR=>?_⟩;obtain⟨z,z1,z2⟩:=v4 μ φ w _ _ (aA hR x).1 (aA hR ix).1;exact⟨z,by simp[execOp,z1],z2,fun id hid=>(aA hR x).2 id (v3 id hid)⟩
 case lookup t x ix ok=>
  split at h
  ·rename_i hn;have sJ:ok=false:=by cases ok<;>simp at hn⊢
   subst sJ;obtain⟨id,b1,b2,m',rfl,hk,hs,yq,ZU,hid,T9,ajg⟩:=acn h;refine⟨_,_,_,_,hk,⟨fun hd=>⟨rfl,[(id,b1),(site,b2)],rfl,by simp,fun f2 m2 hf hm R' k'=>?_⟩,fun _ h=>absurd (h (true,id) (by simp)) (by simp),fun w0 μ φ a w K Q hR hK=>?_⟩⟩
   ·simp only[cR];rw[IN hn,hf x (by simp[Op.operands]),hf ix (by simp[Op.operands])];exact T9 m2 (hm (true,id) (by simp)) (by rw[hm (true,site) (by simp)];exact hs) _ _
   ·obtain⟨u,φ',u1,u2,u3,u4⟩:=ajg _ _ _ _ _ _ _ _ _ hR.toaL hR.mS (aA hR x).1 (aA hR ix).1;exact gA (y:=u) (w':=w) (by simp[execOp,u1]) (hK u w μ φ' u2 u3 u4 fun j hj=>by have hj:=Ka hj;subst hj;simp[Ak])
  rename_i hn;obtain⟨v,ft,v1,v2,v3,v4,v5⟩:=Ud h;refine⟨_,_,_,_,v2,.read (fun f2 m2 hf hm R' k'=>by simp only[cR];rw[IS hn,hf x (by simp[Op.operands]),hf ix (by simp[Op.operands])];exact v1 m2 hm _ _) fun w0 μ φ a w hR=>?_⟩;obtain⟨z,z1,z2⟩:=v5 _ _ μ φ w _ _ hR.toaL (aA hR x).1 (aA hR ix).1;exact⟨z,by simp[execOp,z1],z2,fun id hid=>by rw[v4]at hid;cases hid⟩
 case mapUpdate t x key val=>
  obtain⟨m',ft,k1,k2,k3,k4⟩:=Fe h;refine⟨_,_,_,_,k1,⟨fun hd=>?_,fun h _=>by(simp[fW]at h),fun w0 μ φ a w K Q hR hK=>?_⟩⟩
  ·obtain⟨id,b,rfl,rfl,d3⟩:=k2 hd;refine⟨rfl,[(id,b)],rfl,by simp,fun f2 m2 hf hm R' k'=>?_⟩;simp only[cR];rw[hf x (by simp[Op.operands]),hf key (by simp[Op.operands]),hf val (by simp[Op.operands])];exact d3 m2 (hm (true,id) (by simp)) _ _
  ·obtain⟨w',μ',s1,s2,s3⟩:=k4 _ _ _ _ _ _ _ _ hR.toaL (aA hR x).1 (aA hR key).1 (aA hR val).1;exact CS (by simp[execOp,s1]) (hK undef w' μ' φ s3 (hR.mS.pP s2 k3) .top (by simp))
 case insert t x key val=>
  obtain⟨m',ft,k1,k2,k3,k4⟩:=Fe h;refine⟨_,_,_,_,k1,⟨fun hd=>?_,fun h _=>by(simp[fW]at h),fun w0 μ φ a w K Q hR hK=>?_⟩⟩
  ·obtain⟨id,b,rfl,rfl,d3⟩:=k2 hd;refine⟨rfl,[(id,b)],rfl,by simp,fun f2 m2 hf hm R' k'=>?_⟩;simp only[cR];rw[hf x (by simp[Op.operands]),hf key (by simp[Op.operands]),hf val (by simp[Op.operands])];exact d3 m2 (hm (true,id) (by simp)) _ _
  ·obtain⟨w',μ',s1,s2,s3⟩:=k4 _ _ _ _ _ _ _ _ hR.toaL (aA hR x).1 (aA hR key).1 (aA hR val).1;exact CS (by simp[execOp,s1]) (hK undef w' μ' φ s3 (hR.mS.pP s2 k3) .top (by simp))
 case extract t i=>
  split at h
  ·rename_i vs hx;split at h
   ·rename_i v hv;refine⟨_,_,_,_,h,.read (fun f2 m2 hf hm R' k'=>by simp only[cR];rw[hf t (by simp[Op.operands]),hx];simp only[hv]) fun w0 μ φ a w hR=>?_⟩;obtain⟨h1,h2⟩:=aA hR t;rw[hx]at h1 h2;generalize hy:a.eval t=y at h1;cases h1 with
    | @aG _ xs t1 t2=>
     have cd:i<xs.size:=by have:=(OF.1 hv).1;omega
     refine⟨xs[i],by simp[execOp,hy,Instr.extract,cd],t2 i v _ hv (aiX cd),fun id hid=>h2 id (by simp only[V.has];exact bZ (aqY hv) hid)⟩
   ·cases h
  ·cases h
 case makeSlice t l c=>
  obtain⟨f',m',b,hd,hk,CA,hs⟩:=Nq h;refine⟨_,_,_,_,hk,.make (fun Fb=>⟨(hd Fb).1,(hd Fb).2.1,(hd Fb).2.2.1⟩) (fun Fb f2 m2 hf hs' R' k'=>?_) fun w0 μ φ a w hR=>?_⟩
  ·simp only[cR];rw[hf l (by simp[Op.operands]),hf c (by simp[Op.operands])];exact(hd Fb).2.2.2 f2 m2 hs' _ _
  ·obtain⟨w',y,φ',r1,r2,r3,r4⟩:=hs _ w0 μ φ w (cj E.fn.ntmps w0 a) _ _ hR.toaL hR.mS (aA hR l).1 (aA hR c).1;refine⟨y,w',μ,φ',by simp[execOp,r1],r2,r3,r4,fun id hid=>?_⟩;have hid:=Ka hid;subst hid;exact CA
 case makeMap t hint=>
  split at h
  ·rename_i hh;split at h
   ·rename_i kt et hu;split at h
    ·rename_i hk;obtain⟨ks,hks⟩:=asA.1 hk;have T9:∀f2:Fr,(∀x∈(Op.makeMap t hint).operands,bR E f2 x=bR E f x)→Pm E f2 hint=true:=fun f2 hf=>by
      cases hint with
      |none=>rfl
      |some x=>simp only[Pm]at hh⊢;rw[hf x (by simp[Op.operands])];exact hh
     have mk:∀b:bX,(∀i off,b.rowAt i off=true→False)→(∀(μ:Ro)(φ':Nat→aP)(w:World),(φ' site).g=some w.heap.size→iK E.P μ φ' (w.alloc (.map #[] 0)) site b)→(∀id,b.names id=false)→(∀st,b≠.loop st)→fresh draw site b f m (fun f m ft=>k (.om site) f m ft)=some r→(∀(f2:Fr)(m2:Mem),(∀x∈(Op.makeMap t hint).operands,bR E f2 x=bR E f x)→m2 site=none→∀(R':Type)(k':V→Fr→Mem→bN→Option R'),cR E true site ⟨dst,.makeMap t hint,type,pos,after,guard⟩ f2 m2 k'=k' (.om site) f2 (aD m2 site b) [(true,site)])→∃v f' m' ft,k v f' m' ft=some r∧Bj E draw site ⟨dst,.makeMap t hint,type,pos,after,guard⟩ f m v f' m' ft:=by
      intro b TJ nC hnm hlp h hnt;obtain⟨f',m',hn,sG,CA,Fb,Ce⟩:=eM h TJ;refine⟨_,_,_,_,sG,.make Fb (fun _ f2 m2 hf hs R' k'=>hnt f2 m2 hf hs R' k') fun w0 μ φ a w hR=>?_⟩;obtain⟨φ',a1,a2,a3⟩:=Ce E.P E.aW w0 μ φ w _ _ (JY (some w.heap.size) 0 0 0) hR.toaL hR.mS (nA.alloc (o:=.map #[] 0) hR.toaL rfl (fun φ' hp _=>nC _ _ _ (by rw[hp])) (fun id hid=>by rw[hnm]at hid;cases hid) (fun st h=>absurd h (hlp st)));have zd:(Instr.makeMap t (hint.map a.eval)).run E.P w=.ok (.map (some w.heap.size)) (w.alloc (.map #[] 0)):=by
       cases hint with
       |none=>rfl
       |some x=>
        have h1:=(aA hR x).1;simp only[Pm]at hh;split at hh
        ·rename_i q n hx;rw[hx]at h1;generalize hy:a.eval x=y at h1;cases h1 with
         |pv h1=>cases h1;simp[Instr.makeMap,hy,run_underlying hu,Go.asInt,asIntOf,newObj];rfl
        ·cases hh
      refine⟨.map (some w.heap.size),w.alloc (.map #[] 0),μ,φ',by simp only[execOp,Sem.run_bind,zd];rfl,a2,a3,.om (by rw[a1]),fun id hid=>?_⟩;have hid:=Ka hid;subst hid;simp[CA]
     split at h
     ·rename_i ajh;split at h
      ·rename_i e hue;exact mk (.fU kt e []) (fun i off h=>by cases off<;>simp[bX.rowAt]at h) (fun μ φ' w hg=>⟨w.heap.size,#[],0,ks,hg,gq w _,rfl,hks,by simp,fun i e h=>by simp at h,by simp⟩) (fun _=>rfl) (fun st h=>by cases h) h fun f2 m2 hf hs R' k'=>by simp only[cR,T9 f2 hf,hu,hk,fresh,hs,BY,ajh,hue]
      ·cases h
     ·rename_i ajh;exact mk (.map kt []) (fun i off h=>by simp[bX.rowAt]at h) (fun μ φ' w hg=>Rn hks hg) (fun _=>rfl) (fun st h=>by cases h) h fun f2 m2 hf hs R' k'=>by simp only[cR,T9 f2 hf,hu,hk,fresh,hs,BY];rw[IS ajh]
    ·cases h
   ·cases h
  ·cases h
 case makeFunc fn first caps=>
  cases fn<;>simp only at h;case func g=>
   cases Us:Nat.blt g KA with
   |false=>rw[Us]at h;cases h
   |true=>
   rw[Us]at h;simp only[cond_true]at h;split at h
   ·rename_i aji;have hf0:first= #[]:=by simpa using aji
    subst hf0;refine⟨_,_,_,_,h,.read (fun f2 m2 hf hm R' k'=>?_) fun w0 μ φ a w hR=>⟨.func (.func g) #[] (caps.map a.eval),by simp[execOp,Instr.makeFunc],by rw[←wb Us];exact .fn (nQ hR).1 (nQ hR).2,fun id hid=>vN hR (by simpa only[V.has]using hid)⟩⟩;simp only[cR,Us,cond_true];rw[IN (by simp),sI fun x hx=>hf x (by simpa[Op.operands]using hx)]
   ·rename_i aji;split at h
    ·rename_i hcp;have Na:caps= #[]:=by simpa using hcp
     subst Na;refine⟨_,_,_,_,h,.read (fun f2 m2 hf hm R' k'=>?_) fun w0 μ φ a w hR=>⟨.func (.func g) (first.map a.eval) #[],by simp[execOp,Instr.makeFunc],by rw[←acz];exact .fn (nQ hR).1 (nQ hR).2,fun id hid=>vN hR (by simpa only[V.has]using hid)⟩⟩;simp only[cR,Us,cond_true];rw[IS aji,IN (by simp),sI fun x hx=>hf x (by simpa[Op.operands]using hx)]
    ·cases h
  all_goals (cases h)
 case slice t x lo hi mx=>
  obtain⟨v,ft,v1,v2,v3,v4,v6⟩:=ZS h;have hlo:∀f2:Fr,(∀y∈(Op.slice t x lo hi mx).operands,bR E f2 y=bR E f y)→lo.map (bR E f2)=lo.map (bR E f)∧hi.map (bR E f2)=hi.map (bR E f)∧mx.map (bR E f2)=mx.map (bR E f):=fun f2 hf=>by
   refine⟨?_,?_,?_⟩
   ·cases lo with
    |none=>rfl
    |some y=>simp only[No];rw[hf y (by simp[Op.operands])]
   ·cases hi with
    |none=>rfl
    |some y=>simp only[No];rw[hf y (by simp[Op.operands])]
   ·cases mx with
    |none=>rfl
    |some y=>simp only[No];rw[hf y (by simp[Op.operands])]
  refine⟨_,_,_,_,v2,.read (fun f2 m2 hf hm R' k'=>by simp only[cR];rw[hf x (by simp[Op.operands]),(hlo f2 hf).1,(hlo f2 hf).2.1,(hlo f2 hf).2.2];exact v1 m2 hm _ _) fun w0 μ φ a w hR=>?_⟩;obtain⟨z,z1,z2⟩:=v6 _ _ μ φ w (a.eval x) (lo.map a.eval) (hi.map a.eval) (mx.map a.eval) hR.toaL (aA hR x).1 (fun v hv=>by
   obtain⟨y,rfl,rfl⟩:=aqX.1 hv;exact⟨_,rfl,(aA hR y).1⟩) (fun hv=>by cases lo<;>simp at hv⊢) (fun v hv=>by
   obtain⟨y,rfl,rfl⟩:=aqX.1 hv;exact⟨_,rfl,(aA hR y).1⟩) (fun hv=>by cases hi<;>simp at hv⊢) (fun v hv=>by
   obtain⟨y,rfl,rfl⟩:=aqX.1 hv;exact⟨_,rfl,(aA hR y).1⟩) (fun hv=>by cases mx<;>simp at hv⊢)
  exact⟨z,by simp[execOp,z1],z2,fun id hid=>(aA hR x).2 id (v4 id hid)⟩
 case buildSlice t len parts=>
  split at h
  ·rename_i e hu;split at h
   ·rename_i hfn;split at h
    ·rename_i cs pk;split at h
     ·rename_i hc;obtain⟨hlen,Au,Ih,Ws⟩:=hc;obtain⟨zc,hzc⟩:=asA.1 Ws;obtain⟨iz,zv,z1,z2,z3,_⟩:=fb hzc;obtain⟨p1,p2,p3⟩:=Od pk;obtain⟨f',m',hn,hk,CA,Fb,Ce⟩:=eM h;refine⟨_,_,_,_,hk,.make (b:=.box cs) Fb (fun _ f2 m2 hf hs R' k'=>by have Uq:(parts.toList.map fun(x:Nat×Operand)=>(x.1,bR E f2 x.2))=parts.toList.map fun(x:Nat×Operand)=>(x.1,bR E f x.2):=yC fun x hx=>hf x.2 (by simp only[Op.operands,at4,asC];exact⟨x,hx,rfl⟩);simp only[cR,hu,hfn,BY];rw[Uq];simp only[pk];rw[IN ⟨hlen,Au,Ih,Ws⟩];simp only[fresh,hs]) fun w0 μ φ a w hR=>?_⟩;have Ns:parts.toList.length=len:=by rw[←hlen];simp
      have A2:cs.length=len:=by rw[p1];simp[←Ns]
      have Rw:∃c0:Array Value,c0.size=0+parts.toList.length∧∀cells,Instr.fill (fun i=>some (i*1,1)) c0 (parts.map fun(i,x)=>(i,a.eval x)).toList=some cells→(Instr.buildSlice t len (parts.map fun(i,x)=>(i,a.eval x))).run E.P w=.ok (.slice (some ⟨w.heap.size,0,none⟩) len len) (w.alloc (.cells cells e)):=by
       by_cases h0:len*bj E.P e=0
       ·have Wt:len=0:=by rw[Au]at h0;omega
        refine⟨#[],by simp[Ns,Wt],fun cells hf=>?_⟩;subst Wt;have QE:parts= #[]:=by apply atO;simpa using aso Ns
        subst QE;have hf':cells= #[]:=by simpa[Instr.fill]using hf.symm
        subst hf';simp[Instr.buildSlice,run_underlying hu,sizeOf,typeInfo,z1,newRow,Instr.fill,Array.range_zero']
       ·refine⟨(Array.range (len*bj E.P e)).map (zv.cells[·%zv.cells.size]!),by simp[Ns,Au],fun cells hf=>?_⟩;exact run_buildSlice w t e len _ cells iz zv hu z1 z2 (by rw[z3,Au];omega) (by rw[z3];exact h0) (by rw[z3];simp only[Au]at hf⊢;exact hf)
      obtain⟨c0,c1,c2⟩:=Rw;obtain⟨c',d1,d2,d3,d4⟩:=p3 E.P μ φ (parts.map fun(i,x)=>(i,a.eval x)).toList c0 (by simp) (fun j i v hj=>by simp only[AT,aqX]at hj;obtain⟨y,hy,he⟩:=hj;simp only[amn]at he;obtain⟨rfl,rfl⟩:=he;exact⟨a.eval y.2,by simp[hy],(aA hR y.2).1⟩) (by rw[c1];simp);have rW:c'.size=cs.length:=by rw[d2,c1,A2];omega
      have eR:∀(i:Nat)u y,cs[i]?=some u→c'[i]?=some y→au E.P μ φ u y∧y.oneCell'=true:=fun i u y hu hy=>by obtain⟨z,e1,e2,e3⟩:=d4 i u hu;rw[as5,hy]at e1;cases e1;exact⟨e2,e3⟩
      obtain⟨φ',a1,a2,a3⟩:=Ce E.P E.aW w0 μ φ w (w.alloc (.cells c' e)) _ (JY (some w.heap.size) len cs.length 1) hR.toaL hR.mS (nA.alloc (o:=.cells c' e) hR.toaL rfl (fun φ' hp hn'=>⟨w.heap.size,c',e,by rw[hp],gq w _,rW,fun i u y hu hy=>(eR i u y hu hy).1.mono (fun _ _ h=>h) fun id hid=>hn' id (bZ (aqY hu) hid),fun i y hy=>by
       have cd:=(apj.1 hy).1;have hu:cs[i]?=some (cs[i]'(by omega)):=cN (by omega);exact(eR i _ y hu hy).2,by rw[hp]⟩) (fun id hid=>by
       have h5:=p2 id hid;rw[atZ]at h5;obtain⟨u,hu,hh⟩:=cW.1 h5;obtain⟨y,hy,rfl⟩:=asC.1 hu;exact(aA hR y.2).2 id hh))
      refine⟨.slice (some ⟨w.heap.size,0,none⟩) len len,w.alloc (.cells c' e),μ,φ',by simp only[execOp,Sem.run_bind,c2 c' d1,Result.andThen_ok,Sem.run_pure],a2,a3,?_,fun id hid=>?_⟩
      ·have:=au.os (P:=E.P) (μ:=μ) (φ:=φ') (id:=site) (g:=w.heap.size) (by rw[a1]);rw[a1,A2]at this;exact this
      ·have hid:=Ka hid;subst hid;simp[CA]
     ·cases h
    ·cases h
   rename_i ap1;have hnf:Wd E e=false:=by simpa using ap1
   split at h
   ·rename_i hfz;split at h
    ·rename_i es m1 PF;split at h
     ·rename_i hc;obtain⟨hlen,eS,Ih,Ws⟩:=hc;obtain⟨zc,hzc⟩:=asA.1 Ws;obtain⟨iz,zv,z1,z2,z3,_⟩:=fb hzc;have hpm:=(wA PF).2 m;obtain⟨p1,p2,p3⟩:=zl hpm;refine⟨_,_,_,_,h,⟨fun hd=>⟨rfl,[],rfl,by simp,fun f2 m2 hf _ R' k'=>?_⟩,fun _ _=>⟨rfl,rfl⟩,fun w0 μ φ a w K Q hR hK=>?_⟩⟩
      ·have Uq:(parts.toList.map fun(x:Nat×Operand)=>(x.1,bR E f2 x.2))=parts.toList.map fun(x:Nat×Operand)=>(x.1,bR E f x.2):=yC fun x hx=>hf x.2 (by simp only[Op.operands,at4,asC];exact⟨x,hx,rfl⟩);simp only[cR,hu,hnf,cQ,IT,hfz,BY];rw[Uq];simp only[PF];rw[IN ⟨hlen,eS,Ih,Ws⟩];rfl
      have Ns:parts.toList.length=len:=by rw[←hlen,p2];simp
      have Rw:∃c0:Array Value,c0.size=(0+parts.toList.length)*bj E.P e∧∀cells,Instr.fill (fun i=>some (i*bj E.P e,bj E.P e)) c0 (parts.map fun(i,x)=>(i,a.eval x)).toList=some cells→(Instr.buildSlice t len (parts.map fun(i,x)=>(i,a.eval x))).run E.P w=.ok (.slice (some ⟨w.heap.size,0,none⟩) len len) (w.alloc (.cells cells e)):=by
       by_cases h0:len*bj E.P e=0
       ·have Wt:len=0:=by rcases Nat.mul_eq_zero.1 h0 with h|h<;>omega
        refine⟨#[],by simp[Ns,Wt],fun cells hf=>?_⟩;subst Wt;have QE:parts= #[]:=by apply atO;simpa using aso Ns
        subst QE;have hf':cells= #[]:=by simpa[Instr.fill]using hf.symm
        subst hf';simp[Instr.buildSlice,run_underlying hu,sizeOf,typeInfo,z1,newRow,Instr.fill,Array.range_zero']
       ·refine⟨(Array.range (len*bj E.P e)).map (zv.cells[·%zv.cells.size]!),by simp[Ns],fun cells hf=>?_⟩;exact run_buildSlice w t e len _ cells iz zv hu z1 z2 (by rw[z3];omega) (by rw[z3];exact h0) (by rw[z3];exact hf)
      obtain⟨c0,c1,c2⟩:=Rw;obtain⟨μ',c',d1,d2,d3,d4,d5⟩:=p3 E.P E.aW w0 μ φ w (parts.map fun(i,x)=>(i,a.eval x)).toList [] c0 hR.toaL (by simp) (fun j i v hj=>by simp only[AT,aqX]at hj;obtain⟨y,hy,he⟩:=hj;simp only[amn]at he;obtain⟨rfl,rfl⟩:=he;exact⟨a.eval y.2,by simp[hy],(aA hR y.2).1⟩) rfl (by simpa using c1) (by simpa using Cells.nil);simp only[atC]at d5;have hb:nD w.heap.size w (w.alloc (.cells c' e)):=(nD.refl _ w).alloc (ast _) _;have hA:aX E.P μ' (fun _=>JY (some w.heap.size) len es.length (bj E.P e)) (w.alloc (.cells c' e)) 0 (bj E.P e) e es:=aX.tH (g:=w.heap.size) rfl rfl eS (by simp only[maxLen,JY];have:len*1≤len*bj E.P e:=atD _ eS;omega) (gq w _) (by simp only[JY];rw[d4];simp[←Ns]) (by simp only[JY];omega) (by have h1:=d5.len;rw[asG (by rw[h1];exact ast _)];exact d5);have GZ:=mP d2 (w.alloc (.cells c' e));have hV:=hA.Pv (g:=w.heap.size) rfl (lo:=0) (len:=len) (by omega) (cap:=len) (by simp only[JY];omega) (ast _) GZ (by simp[cH]);rw[avt,aul,asG (by omega)]at hV;exact gA (by simp only[execOp,Sem.run_bind,c2 c' d3,Result.andThen_ok,Sem.run_pure]) (hK _ _ _ φ (d2.called hb) ((hR.mS.pP d1 p1).pP GZ (.refl _)) (.pv hV) (fun id hid=>by cases hid))
     ·cases h
    ·cases h
   rename_i ap2;split at h
   ·rename_i es m1 PF;split at h
    ·rename_i hc;obtain⟨hlen,eS,Ih,Ws⟩:=hc;obtain⟨zc,hzc⟩:=asA.1 Ws;obtain⟨iz,zv,z1,z2,z3,_⟩:=fb hzc;have hmm:∃mm,mm=(if draw then m else m1)∧fP m (bj E.P e) (aN E.P e) 0 (parts.toList.map fun(i,x)=>(i,bR E f x))=some (es,mm):=by
      cases draw with
      |true=>exact⟨m,rfl,(wA PF).2 m⟩
      |false=>exact⟨m1,rfl,PF⟩
     obtain⟨mm,hme,hpm⟩:=hmm;rw[←hme]at h;obtain⟨p1,p2,p3⟩:=zl hpm;obtain⟨f',m',hn,hk,CA,Fb,Ce⟩:=eM h;refine⟨_,_,_,_,hk,.make (b:=.arr (bj E.P e) e es) (fun hd=>by
      have:=Fb hd;rw[hd]at hme;simp only[BY]at hme;rw[hme]at this;exact this) (fun hd f2 m2 hf hs R' k'=>by
      subst hd;have Uq:(parts.toList.map fun(x:Nat×Operand)=>(x.1,bR E f2 x.2))=parts.toList.map fun(x:Nat×Operand)=>(x.1,bR E f x.2):=yC fun x hx=>hf x.2 (by simp only[Op.operands,at4,asC];exact⟨x,hx,rfl⟩);simp only[cR,hu,hnf,cQ,IT,ap2,BY];rw[Uq];simp only[BY]at PF;simp only[PF];rw[IN ⟨hlen,eS,Ih,Ws⟩];simp only[fresh,hs]) fun w0 μ φ a w hR=>?_⟩
     have Ns:parts.toList.length=len:=by rw[←hlen,p2];simp
     have Rw:∃c0:Array Value,c0.size=(0+parts.toList.length)*bj E.P e∧∀cells,Instr.fill (fun i=>some (i*bj E.P e,bj E.P e)) c0 (parts.map fun(i,x)=>(i,a.eval x)).toList=some cells→(Instr.buildSlice t len (parts.map fun(i,x)=>(i,a.eval x))).run E.P w=.ok (.slice (some ⟨w.heap.size,0,none⟩) len len) (w.alloc (.cells cells e)):=by
      by_cases h0:len*bj E.P e=0
      ·have Wt:len=0:=by rcases Nat.mul_eq_zero.1 h0 with h|h<;>omega
       refine⟨#[],by simp[Ns,Wt],fun cells hf=>?_⟩;subst Wt;have QE:parts= #[]:=by apply atO;simpa using aso Ns
       subst QE;have hf':cells= #[]:=by simpa[Instr.fill]using hf.symm
       subst hf';simp[Instr.buildSlice,run_underlying hu,sizeOf,typeInfo,z1,newRow,Instr.fill,Array.range_zero']
      ·refine⟨(Array.range (len*bj E.P e)).map (zv.cells[·%zv.cells.size]!),by simp[Ns],fun cells hf=>?_⟩;exact run_buildSlice w t e len _ cells iz zv hu z1 z2 (by rw[z3];omega) (by rw[z3];exact h0) (by rw[z3];exact hf)
     obtain⟨c0,c1,c2⟩:=Rw;obtain⟨μ',c',d1,d2,d3,d4,d5⟩:=p3 E.P E.aW w0 μ φ w (parts.map fun(i,x)=>(i,a.eval x)).toList [] c0 hR.toaL (by simp) (fun j i v hj=>by simp only[AT,aqX]at hj;obtain⟨y,hy,he⟩:=hj;simp only[amn]at he;obtain⟨rfl,rfl⟩:=he;exact⟨a.eval y.2,by simp[hy],(aA hR y.2).1⟩) rfl (by simpa using c1) (by simpa using Cells.nil);simp only[atC]at d5;obtain⟨φ',a1,a2,a3⟩:=Ce E.P E.aW w0 μ' φ w _ _ (JY (some w.heap.size) len es.length (bj E.P e)) d2 (hR.mS.pP d1 p1) (nA.alloc (o:=.cells c' e) d2 rfl (fun φ' hp _=>aX.tH (g:=w.heap.size) (by rw[hp]) rfl eS (by rw[hp];simp only[maxLen];have:len*1≤len*bj E.P e:=atD _ eS;omega) (gq w _) (by rw[hp,d4];simp[←Ns]) (by rw[hp];simp[hlen]) (by have h1:=d5.len;rw[asG (by rw[h1];exact ast _)];exact d5)) (by simp[bX.names]));refine⟨.slice (some ⟨w.heap.size,0,none⟩) len len,w.alloc (.cells c' e),μ',φ',by simp only[execOp,Sem.run_bind,c2 c' d3,Result.andThen_ok,Sem.run_pure],a2,a3,?_,fun id hid=>?_⟩
     ·have:=au.os (P:=E.P) (μ:=μ') (φ:=φ') (id:=site) (g:=w.heap.size) (by rw[a1]);rw[a1,hlen]at this;exact this
     ·have hid:=Ka hid;subst hid;simp[CA]
    ·cases h
   ·cases h
  ·cases h
 case call c=>exact absurd rfl (hc c)
 case range t x=>cases hit
 case next x s=>cases hit
 case entry x=>cases hit
 all_goals (cases h)
variable{dst:Option Nat}{after:Array Edge}{guard:Option (Nat×Bool)}
theorem acA(hE:mb E){callee:Callee}{argTypes:Array TypeId}{type:TypeId}{pos:String}(h:cR E draw site ⟨dst,.call ⟨callee,args,argTypes⟩,type,pos,after,guard⟩ f m k=some r):(∃v f' m' ft,k v f' m' ft=some r∧Bj E draw site ⟨dst,.call ⟨callee,args,argTypes⟩,type,pos,after,guard⟩ f m v f' m' ft)∨(draw=false∧Ln E ⟨dst,.call ⟨callee,args,argTypes⟩,type,pos,after,guard⟩ f m k r):=by
 unfold cR at h;simp only at h;have wy:∀f2:Fr,(∀x∈(Op.call ⟨callee,args,argTypes⟩).operands,bR E f2 x=bR E f x)→args.toList.map (bR E f2)=args.toList.map (bR E f):=fun f2 hf=>sI fun x hx=>hf x (by simp_all[Op.operands,Call.operands]);have nC:=fun{w0 μ φ a w}(hR:Rel E.P E.aW E.fn.ntmps w0 μ φ f m a w)=>nQ hR (args:=args);have known:∀(g:FuncId)(vs:List V),B1 E draw site g vs f m k=some r→(∀w0 μ φ a w,Rel E.P E.aW E.fn.ntmps w0 μ φ f m a w→∃xs,(execOp a.eval ⟨dst,.call ⟨callee,args,argTypes⟩,type,pos,after,guard⟩).run E.P w=(callFunc g xs).run E.P w∧vs.length=xs.size∧(∀(i:Nat)v x,vs[i]?=some v→xs[i]?=some x→au E.P μ φ v x)∧∀id,cA id vs=true→(m id).isSome=true)→(∀(f2:Fr)(m2:Mem),(∀x∈(Op.call ⟨callee,args,argTypes⟩).operands,bR E f2 x=bR E f x)→∀(R':Type)(k':V→Fr→Mem→bN→Option R'),cR E true site ⟨dst,.call ⟨callee,args,argTypes⟩,type,pos,after,guard⟩ f2 m2 k'=B1 E true site g vs f2 m2 k')→(∃v f' m' ft,k v f' m' ft=some r∧Bj E draw site ⟨dst,.call ⟨callee,args,argTypes⟩,type,pos,after,guard⟩ f m v f' m' ft)∨(draw=false∧Ln E ⟨dst,.call ⟨callee,args,argTypes⟩,type,pos,after,guard⟩ f m k r):=by
  intro g vs hx zd T9;obtain h0|⟨Fb,⟨fn,c,f1,f2,f3⟩,k5⟩:=ack hE hx;rotate_left
  ·refine .inr ⟨Fb,And.intro (fun c x y h=>by cases h) fun rd w0 μ φ a w K Q _ hR hK=>Ij (fun c h=>by cases h) ?_⟩;obtain⟨xs,x1,x2,x3,x4⟩:=zd w0 μ φ a w hR;unfold Oper.wp;rw[x1,EB f1 f3 f2];rw[Oper.upon_enter];refine(k5 w0 μ φ _ w xs hR.toaL hR.mS x2 x3 x4).mono ?_;grind
  obtain⟨v,f',m',ft,k1,k2,ks,⟨fn,c,f1,f2,f3⟩,k5⟩:=h0;refine .inl ⟨v,f',m',ft,k1,⟨fun hd=>?_,fun _ h=>ks h,fun w0 μ φ a w K Q hR hK=>?_⟩⟩
  ·obtain⟨d1,wr,d2,d3,d4⟩:=k2 hd;exact⟨d1,wr.toList,by rw[d2];cases wr<;>rfl,fun x hx=>(by grind),fun f2 m2 hf hm R' k'=>by rw[T9 f2 m2 hf,d4 f2 m2 hm R' k'];cases wr<;>rfl⟩
  ·obtain⟨xs,x1,x2,x3,x4⟩:=zd w0 μ φ a w hR;unfold Oper.wp;rw[x1,EB f1 f3 f2];rw[Oper.upon_enter];refine(k5 w0 μ φ _ w xs hR.toaL hR.mS x2 x3 x4).mono ?_;grind
 have read:∀{v:V}{ft:bN},k v f m ft=some r→(∀(f2:Fr)(m2:Mem),(∀x∈(Op.call ⟨callee,args,argTypes⟩).operands,bR E f2 x=bR E f x)→(∀x∈ft,m2 x.2=m x.2)→∀(R':Type)(k':V→Fr→Mem→bN→Option R'),cR E true site ⟨dst,.call ⟨callee,args,argTypes⟩,type,pos,after,guard⟩ f2 m2 k'=k' v f2 m2 ft)→(∀w0 μ φ a w,Rel E.P E.aW E.fn.ntmps w0 μ φ f m a w→∃y,(execOp a.eval ⟨dst,.call ⟨callee,args,argTypes⟩,type,pos,after,guard⟩).run E.P w=.ok (.value y) w∧au E.P μ φ v y∧∀id,v.has id=true→(m id).isSome=true)→(∃v f' m' ft,k v f' m' ft=some r∧Bj E draw site ⟨dst,.call ⟨callee,args,argTypes⟩,type,pos,after,guard⟩ f m v f' m' ft)∨(draw=false∧Ln E ⟨dst,.call ⟨callee,args,argTypes⟩,type,pos,after,guard⟩ f m k r):=fun hk hn hs=>.inl ⟨_,_,_,_,hk,.read hn hs⟩;have one:∀{l:List Operand}{u:V},l.map (bR E f)=[u]→∃x,l=[x]∧u=bR E f x:=by simp_all
 have two:∀{l:List Operand}{u v:V},l.map (bR E f)=[u,v]→∃x y,l=[x,y]∧u=bR E f x∧v=bR E f y:=by
  intro l u v h;match l with
  |[]=>simp at h
  |[x]=>simp at h
  |[x,y]=>grind
  |_::_::_::_=>simp at h
 have four:∀{l:List Operand}{u1 u2 u3 u4:V},l.map (bR E f)=[u1,u2,u3,u4]→∃x y z t,l=[x,y,z,t]∧u1=bR E f x∧u2=bR E f y∧u3=bR E f z∧u4=bR E f t:=by
  intro l u1 u2 u3 u4 h;match l with
  |[]=>simp at h
  |[x]=>simp at h
  |[x,y]=>simp at h
  |[x,y,z]=>simp at h
  |[x,y,z,t]=>grind
  |_::_::_::_::_::_=>simp at h
 have ajj:∀{A:Type}{xs:Array A}{x:A},xs.toList=[x]→xs= #[x]:=fun h=>atO (by omega);have acB:∀{A:Type}{xs:Array A}{x y:A},xs.toList=[x,y]→xs= #[x,y]:=fun h=>atO (by omega);split at h
 ·rename_i u hu;obtain⟨x,hx,rfl⟩:=one hu;split at h
  ·rename_i t ht;obtain⟨v,ft,v1,v2,v3,v4,v5⟩:=agM h;refine read v2 (fun f2 m2 hf hm R' k'=>?_) (fun w0 μ φ a w hR=>?_)
   ·grind [cR]
   ·have e1:=ajj hx;have e2:=ajj ht;subst e1;subst e2;obtain⟨z,z1,z2⟩:=v5 _ _ μ φ w _ type hR.toaL (aA hR x).1 (aA hR x).2;exact⟨z,by simp[execOp,resolve,invoke,builtin,z1],z2,fun id hid=>by grind⟩
  ·cases h
 ·rename_i u u' hu;obtain⟨x,y,hx,rfl,rfl⟩:=two hu;split at h
  ·rename_i t t' ht;obtain⟨hd,ht',place,f',m',k1,k2,k3⟩:=T8 h;subst ht';refine .inl ⟨_,_,_,_,k1,⟨fun hd'=>(by grind),fun h _=>by(simp[fW]at h),fun w0 μ φ a w K Q hR hK=>?_⟩⟩;have e1:=acB hx;have e2:=acB ht;subst e1;subst e2;obtain⟨w',z,φ',z1,z2,z3,z4⟩:=k3 _ w0 μ φ w (cj E.fn.ntmps w0 a) _ _ type hR.toaL hR.mS (aA hR x).1 (aA hR y).1;exact gA (y:=z) (w':=w') (by simp[execOp,resolve,invoke,builtin,z1]) (hK z w' μ φ' z2 z3 z4 fun id hid=>by have hid:=Ka hid;subst hid;omega)
  ·cases h
 ·rename_i u u' hu;obtain⟨x,y,hx,rfl,rfl⟩:=two hu;split at h
  ·rename_i t ts ht;obtain⟨n,id,b,ft,c1,c2,c3⟩:=acg h;refine .inl ⟨_,_,_,_,c2,⟨fun hd=>⟨rfl,[(id,b)],rfl,by simp,fun f2 m2 hf hm R' k'=>?_⟩,fun h _=>by(simp[fW]at h),fun w0 μ φ a w K Q hR hK=>?_⟩⟩
   ·simp only[cR,wy f2 hf,hu,ht];exact c1 m2 hm _ _
   ·have e1:=acB hx;subst e1;have e2:argTypes=(t::ts).toArray:=atO (by omega);subst e2;obtain⟨w',φ',z1,z2,z3,z4⟩:=c3 _ w0 μ φ w (cj E.fn.ntmps w0 a) f _ _ ts type hR.toaL hR.mS (aA hR x).1 (aA hR y).1;exact gA (y:=.int .i64 n) (w':=w') (by simp only[execOp,resolve,invoke,builtin,Sem.run_bind,Sem.run_pure,Result.andThen_ok];rw[show(#[x,y].map a.eval)= #[a.eval x,a.eval y] by simp,z1];rfl) (hK _ w' μ φ' z2 z3 (.pv (.int z4)) (by simp))
  ·cases h
 ·rename_i u hu;obtain⟨x,hx,rfl⟩:=one hu;split at h
  ·rename_i t ts ht;obtain⟨id,b,c1,c2,c3⟩:=Z0 h;refine .inl ⟨_,_,_,_,c2,⟨fun hd=>⟨rfl,[(id,b)],rfl,by simp,fun f2 m2 hf hm R' k'=>?_⟩,fun h _=>by(simp[fW]at h),fun w0 μ φ a w K Q hR hK=>?_⟩⟩
   ·simp only[cR,wy f2 hf,hu,ht];exact c1 m2 (hm (true,id) (by simp)) _ _
   ·have e1:=ajj hx;subst e1;have e2:argTypes=(t::ts).toArray:=atO (by omega);subst e2;obtain⟨w',z1,z2,z3⟩:=c3 _ w0 μ φ w (cj E.fn.ntmps w0 a) f _ ts type hR.toaL hR.mS (aA hR x).1;exact gA (y:=.tuple #[]) (w':=w') (by simp only[execOp,resolve,invoke,builtin,Sem.run_bind,Sem.run_pure,Result.andThen_ok];rw[show(#[x].map a.eval)= #[a.eval x] by simp,z1];rfl) (hK _ w' μ φ z2 z3 .top (by simp))
  ·cases h
 ·rename_i u u' hu;obtain⟨x,y,hx,rfl,rfl⟩:=two hu;obtain⟨q,q1,q2,q3⟩:=ab6 h;refine read q2 (fun f2 m2 hf hm R' k'=>?_) (fun w0 μ φ a w hR=>?_)
  ·grind [cR]
  ·have e1:=acB hx;subst e1;obtain⟨z,z1,z2⟩:=q3 E.P μ φ w _ _ (aA hR x).1 (aA hR y).1;exact⟨z,by simp[execOp,resolve,invoke,builtin,Builtin.min_,z1],.pv z2,by simp⟩
 ·rename_i u u' hu;obtain⟨x,y,hx,rfl,rfl⟩:=two hu;obtain⟨q,q1,q2,q3⟩:=GV h;refine read q2 (fun f2 m2 hf hm R' k'=>?_) (fun w0 μ φ a w hR=>?_)
  ·grind [cR]
  ·have e1:=acB hx;subst e1;obtain⟨z,z1,z2⟩:=q3 E.P μ φ w _ _ (aA hR x).1 (aA hR y).1;exact⟨z,by simp[execOp,resolve,invoke,builtin,Builtin.max_,z1],.pv z2,by simp⟩
 ·rename_i u1 u2 u3 u4 hu;obtain⟨x,y,z,t,hx,rfl,rfl,rfl,rfl⟩:=four hu;obtain⟨q,q1,q2,q3⟩:=ab7 h;refine read q2 (fun f2 m2 hf hm R' k'=>?_) (fun w0 μ φ a w hR=>?_)
  ·grind [cR]
  ·have e1:args= #[x,y,z,t]:=atO (by omega);subst e1;obtain⟨v1,v2,v3,z1,z2,z3,z4⟩:=q3 E.P μ φ w _ _ _ _ (aA hR x).1 (aA hR y).1 (aA hR z).1 (aA hR t).1;exact⟨v3,by simp[execOp,resolve,invoke,builtin,Builtin.max_,z1,z2,z3],.pv z4,by simp⟩
 ·rename_i _ g;refine known g _ h (fun w0 μ φ a w hR=>⟨args.map a.eval,?_,(nQ hR).1,(nQ hR).2,fun id hid=>vN hR hid⟩) (fun f2 m2 hf R' k'=>?_)
  ·simp[execOp,resolve,Deferred.ofValue,invoke,Act.eval]
  ·simp only[cR,wy f2 hf]
 ·rename_i _ tm;split at h
  ·rename_i g caps vb;refine known (B3 g) _ h (fun w0 μ φ a w hR=>?_) (fun f2 m2 hf R' k'=>?_)
   ·have h1:=(aA hR (.tmp tm)).1;rw[vb]at h1;have hlc:=(aA hR (.tmp tm)).2;rw[vb]at hlc;generalize hy:a.eval (.tmp tm)=y at h1;cases h1 with
    | @fn _ _ xs c1 c2=>
     obtain⟨o1,o2⟩:=nQ hR (args:=args);obtain⟨b1,b2⟩:=Wz (g:=g) (by simp) o2 c1 c2;refine⟨G0 g xs (args.map a.eval),?_,b1,b2,fun id hid=>?_⟩
     ·cases e:Nat.blt g KA with
      |true=>rw[wb e]at hy;simp[execOp,resolve,Deferred.ofValue,invoke,hy,B3,G0,e]
      |false=>rw[Rf e]at hy;simp[execOp,resolve,Deferred.ofValue,invoke,hy,B3,G0,e]
     ·obtain⟨v,hv,hh⟩:=cW.1 hid;rcases acy hv with hv|hv
      ·exact vN hR (cW.2 ⟨v,hv,hh⟩)
      ·exact hlc id (by simp only[V.has];exact cW.2 ⟨v,hv,hh⟩)
   ·have:=hf (.tmp tm) (by simp[Op.operands,Call.operands]);simp only[cR,wy f2 hf,this,vb]
  ·rename_i g caps vb;refine known (B3 g) _ h (fun w0 μ φ a w hR=>?_) (fun f2 m2 hf R' k'=>?_)
   ·have h1:=(aA hR (.tmp tm)).1;rw[vb]at h1;generalize hy:a.eval (.tmp tm)=y at h1;cases h1 with
    |pv h1=>cases h1 with
     | @fn _ _ xs c1 c2=>
      obtain⟨o1,o2⟩:=nQ hR (args:=args);obtain⟨b1,b2⟩:=Wz (g:=g) (caps:=caps.map .pv) (xs:=xs) (by simp) o2 (by simpa using c1) (fun i v x hv hx=>by simp only[AT,aqX]at hv;obtain⟨q,hq,rfl⟩:=hv;exact .pv (c2 _ q x hq hx));refine⟨G0 g xs (args.map a.eval),?_,b1,b2,fun id hid=>?_⟩
      ·cases e:Nat.blt g KA with
       |true=>rw[wb e]at hy;simp[execOp,resolve,Deferred.ofValue,invoke,hy,B3,G0,e]
       |false=>rw[Rf e]at hy;simp[execOp,resolve,Deferred.ofValue,invoke,hy,B3,G0,e]
      ·obtain⟨v,hv,hh⟩:=cW.1 hid;rcases acy hv with hv|hv
       ·exact vN hR (cW.2 ⟨v,hv,hh⟩)
       ·obtain⟨q,_,rfl⟩:=asC.1 hv;cases hh
   ·have:=hf (.tmp tm) (by simp[Op.operands,Call.operands]);simp only[cR,wy f2 hf,this,vb]
  ·rename_i id vb;split at h
   ·cases h
   ·rename_i Fb;refine .inr ⟨by simpa using Fb,And.intro (fun c x y h=>by cases h) fun rd w0 μ φ a w K Q hY hR hK=>?_⟩;have h1:=(aA hR (.tmp tm)).1;rw[vb]at h1;generalize hy:a.eval (.tmp tm)=y at h1;cases h1 with
    | @yl _ g hg=>
     obtain⟨o1,o2⟩:=nQ hR (args:=args);obtain⟨fn,tmps,assign,body,y1,y2⟩:=hY _ _ _ _ _ _ _ _ h μ φ (cj E.fn.ntmps w0 a) w (args.map a.eval) hR.toaL hR.mS (fun t ht=>by unfold cj;rw[IS (by omega)]) o1 o2 (fun id hid=>vN hR hid) g hg;refine⟨fun _ _=>trivial,?_⟩;rw[Oper.semAt_eq _ _ _ (fun c h=>by cases h)];have zd:(execOp a.eval ⟨dst,.call ⟨.value (.tmp tm),args,argTypes⟩,type,pos,after,guard⟩).run E.P w=.ok (.round g fn tmps assign body) w:=by simp only[execOp,resolve,Deferred.ofValue,hy];simpa[invoke]using y1
     rw[zd,Oper.uponIn_round];refine⟨fun h=>(by cases h),(FR.agW y2).mono ?_⟩;rintro e w' ⟨v,f',m',y,μ',φ',h0,rfl,_,h1,h2,h3,h4⟩;exact hK v f' m' y w' μ' φ' h0 h1 h2 h3 h4
  ·cases h
 ·cases h
theorem Rx{a b:Option R}(h:agree a b=some r):a=some r∧b=some r:=by
 unfold agree at h;split at h
 ·rename_i e;exact⟨h,by rw[←e];exact h⟩
 ·cases h
theorem aae{op:BinOp}{t:TypeId}{es:List PV}{k:Bool→Option R}(h:TT E op t es k=some r):∃e,E.P.underlying t=some (.slice e)∧((op=.eql∧∀b,(b=true→es=[])→k b=some r)∨(op=.neq∧∀b,(b=false→es=[])→k b=some r)):=by
 unfold TT at h;split at h
 ·rename_i e hu;refine⟨e,hu,.inl ⟨rfl,fun b hb=>?_⟩⟩;split at h
  ·obtain⟨h1,h2⟩:=Rx h;cases b<;>assumption
  ·rename_i cV;cases b with
   |true=>exact absurd (by simp[hb rfl]) cV
   |false=>exact h
 ·rename_i e hu;refine⟨e,hu,.inr ⟨rfl,fun b hb=>?_⟩⟩;split at h
  ·obtain⟨h1,h2⟩:=Rx h;cases b<;>assumption
  ·rename_i cV;cases b with
   |false=>exact absurd (by simp[hb rfl]) cV
   |true=>exact h
 ·cases h
theorem agY{op:BinOp}{t:TypeId}{x y:Operand}{ty type:TypeId}{pos:String}{s:Nat}{es:List PV}(h:cR E draw site ⟨dst,.binOp op t x y ty,type,pos,after,guard⟩ f m k=some r)(hx:bR E f x=.pv (.rs s es))(hy:bR E f y=.jC):draw=false∧Ln E ⟨dst,.binOp op t x y ty,type,pos,after,guard⟩ f m k r:=by
 simp only[cR,hx,hy]at h;split at h
 ·cases h
 ·rename_i hd;refine⟨by simpa using hd,And.intro (fun c x y h=>by cases h) fun rd w0 μ φ a w K Q _ hR hK=>Ij (fun c h=>by cases h) ?_⟩;obtain⟨e,hu,hk⟩:=aae h;have h1:=(aA hR x).1;have h2:=(aA hR y).1;rw[hx]at h1;rw[hy]at h2;generalize hvx:a.eval x=vx at h1;generalize hvy:a.eval y=vy at h2;have N2:∃(ad:Option Addr)(n c:Nat),vx=.slice ad n c∧(ad=none→es=[]):=by
   cases h1 with
   |pv h1=>
    cases h1 with
    |ny=>exact⟨none,0,0,rfl,fun _=>rfl⟩
    |Ni _=>exact⟨_,_,_,rfl,fun _=>rfl⟩
    |rs _ _ _ _ _ _ _=>exact⟨_,_,_,rfl,fun h=>by cases h⟩
  obtain⟨ad,n,c,rfl,ajc⟩:=N2;cases h2;have go:∀b,(binOp op t (.slice ad n c) (.slice none 0 0)).run E.P w=.ok (.bool b) w→k (.pv (.bool b)) f m [(true,0)]=some r→(⟨dst,.binOp op t x y ty,type,pos,after,guard⟩:Oper).wp E.P a w K Q:=fun b hb hkb=>by refine gA (y:=.bool b) (w':=w) ?_ (hK _ _ _ _ _ _ _ hkb hR.toaL hR.mS (.pv .bool) (by simp));simp only[execOp,eqGuard_at_slice,Sem.run_bind,Sem.run_pure,hvx,hvy,Result.andThen_ok];rw[hb];rfl
  rcases hk with⟨rfl,hk⟩|⟨rfl,hk⟩
  ·refine go ad.isNone (Lib.run_eql_slice_nil w t e ad n c 0 0 hu) (hk _ fun hb=>ajc (by simpa using hb))
  ·refine go (!ad.isNone) ?_ (hk _ fun hb=>ajc (by simpa using hb));simp only[binOp];simp[Op.equal,Op.maxDepth,Lib.run_equalIn_slice_nil w 9999 t e ad n c 0 0 hu]
theorem acC(h:cR E draw site o f m k=some r)(hi:TX o.op=true):draw=false∧Ln E o f m k r:=by
 obtain⟨dst,op,type,pos,after,guard⟩:=o;unfold cR at h;cases op<;>first|(cases hi;done)|skip
 case range t x=>
  simp only at h;split at h
  ·cases h
  ·rename_i hd;refine⟨by simpa using hd,And.intro (fun c x y h=>by cases h) fun rd w0 μ φ a w K Q _ hR hK=>Ij (fun c h=>by cases h) ?_⟩;obtain⟨f',m',hk,hl,hs⟩:=Z8 h;obtain⟨w',y',μ',φ',r1,r2,r3,r4⟩:=hs _ _ _ _ _ _ _ hR.toaL hR.mS (aA hR x).1;exact gA (y:=y') (w':=w') (by simp[execOp,r1]) (hK _ _ _ _ _ _ _ hk r2 r3 r4 fun id hid=>by have:=Ka hid;subst this;exact hl)
 case next x s=>
  simp only at h;split at h
  ·cases h
  ·rename_i hd;simp only[asz,avy,atj]at hd;obtain⟨hd,rfl⟩:=hd;refine⟨hd,And.intro (fun c x y h=>by cases h) fun rd w0 μ φ a w K Q _ hR hK=>Ij (fun c h=>by cases h) ?_⟩;obtain⟨v,m',y',w',hk,hv,hl,r1,r2,r3⟩:=acm h _ _ _ _ _ _ type hR.toaL (aA hR x).1;exact gA (y:=y') (w':=w') (by simp[execOp,r1]) (hK _ _ _ _ _ _ _ hk r2 (hR.mS.pP (fun _ _ h=>h) hl) r3 fun id hid=>by rw[hv id]at hid;cases hid)
 case entry x=>
  simp only at h;split at h
  ·cases h
  ·rename_i hd;refine⟨by simpa using hd,And.intro (fun c x y h=>by cases h) fun rd w0 μ φ a w K Q _ hR hK=>Ij (fun c h=>by cases h) ?_⟩;obtain⟨v,m',y',hk,hv,hl,r1,r3,r2⟩:=Z9 h _ _ _ _ _ _ _ hR.toaL (aA hR x).1;exact gA (y:=y') (w':=w) (by simp[execOp,r1]) (hK _ _ _ _ _ _ _ hk r3 (hR.mS.pP (fun _ _ h=>h) hl) r2 fun id hid=>by rw[hv id]at hid;cases hid)
theorem agZ(hE:mb E)(h:cR E draw site o f m k=some r):(∃v f' m' ft,k v f' m' ft=some r∧Bj E draw site o f m v f' m' ft)∨(draw=false∧Ln E o f m k r):=by
 by_cases hc:∃c,o.op=.call c
 ·obtain⟨dst,op,type,pos,after,guard⟩:=o;obtain⟨⟨callee,args,argTypes⟩,hc⟩:=hc;simp only at hc;subst hc;exact acA hE h
 ·by_cases hb:∃op t x y ty s es,o.op=.binOp op t x y ty∧bR E f x=.pv (.rs s es)∧bR E f y=.jC
  ·obtain⟨op,t,x,y,ty,s,es,h1,h2,h3⟩:=hb;obtain⟨dst,op',type,pos,after,guard⟩:=o;simp only at h1;subst h1;exact .inr (agY h h2 h3)
  ·cases hi:TX o.op with
   |true=>exact .inr (acC h hi)
   |false=>exact .inl (agX hE h (fun c hcc=>hc ⟨c,hcc⟩) (fun op t x y ty s es h1 h2 h3=>hb ⟨op,t,x,y,ty,s,es,h1,h2,h3⟩) hi)
theorem Rel.FM{nt:Nat}{P:Program}{G:Nat→Option (List PV)}{w0:bO}{μ:Ro}{φ:Nat→aP}{f:Fr}{m:Mem}{a:Act}{w:World}(h:Rel P G nt w0 μ φ f m a w){K:Ro}(hK:∀b o,K b=some o→μ b=some o)(hK0:∀b o,w0.dY b=some o→K b=some o):Rel P G nt {w0 with dY:=K} μ φ f m a w:={toaL:=h.toaL.FM hK,size:=h.size,defers:=h.defers,py:=fun b o hb=>hK0 b o (h.py b o hb),fr:=h.fr,live:=h.live}
theorem Rel.La{nt:Nat}{P:Program}{G:Nat→Option (List PV)}{w0:bO}{μ:Ro}{φ:Nat→aP}{f:Fr}{m:Mem}{a:Act}{w:World}{K:Ro}(h:Rel P G nt {w0 with dY:=K} μ φ f m a w)(hK:∀b o,w0.dY b=some o→K b=some o)(ho:∀b o,w0.py b=some o→w0.dY b=some o):Rel P G nt w0 μ φ f m a w:={toaL:=h.toaL.La hK,size:=h.size,defers:=h.defers,py:=ho,fr:=h.fr,live:=h.live}
abbrev Ry(μ μ':Ro):Prop:=∀b o,μ b=some o→μ' b=some o
theorem Uw(h:cR E draw site o f m k=some r):∀c,o.op≠.defer c:=by intro c hc;obtain⟨dst,op,type,pos,after,guard⟩:=o;simp only at hc;subst hc;simp[cR]at h
theorem Bj.FO{f':Fr}{ft:bN}(h:Bj E draw site o f m v f' m' ft)(hd:∀c,o.op≠.defer c)(rd:Option Nat)(w0:bO)(μ:Ro)(φ:Nat→aP)(a:Act)(w:World)(K:Act→World→Prop)(Q:Exit→Act→World→Prop)(hR:Rel E.P E.aW E.fn.ntmps w0 μ φ f m a w)(hK:∀y w' μ' φ',Ry μ μ'→aL E.P E.aW w0 μ' φ' m' w'→cp E.P μ' φ' m' f' (cj E.fn.ntmps w0 a)→au E.P μ' φ' v y→(∀id,v.has id=true→(m' id).isSome=true)→K (a.put o.dst y) w'):o.wpIn (FR rd) 0 E.P a w K Q:=Ij hd (h.sound {w0 with dY:=μ} μ φ a w K Q (hR.FM (fun _ _ h=>h) hR.dY) fun y w' μ' φ' h1 h2 h3 h4=>hK y w' μ' φ' h1.dY (h1.La hR.dY) h2 h3 h4)
theorem Ln.FO(h:Ln E o f m k r)(rd:Option Nat)(w0:bO)(μ:Ro)(φ:Nat→aP)(a:Act)(w:World)(K:Act→World→Prop)(Q:Exit→Act→World→Prop)(hY:Aq E.P E.aW E.fn.ntmps E.yl w0)(hR:Rel E.P E.aW E.fn.ntmps w0 μ φ f m a w)(hK:∀v f' m' y w' μ' φ',k v f' m' [(true,0)]=some r→Ry μ μ'→aL E.P E.aW w0 μ' φ' m' w'→cp E.P μ' φ' m' f' (cj E.fn.ntmps w0 a)→au E.P μ' φ' v y→(∀id,v.has id=true→(m' id).isSome=true)→K (a.put o.dst y) w'):o.wpIn (FR rd) 0 E.P a w K Q:=h.2 rd {w0 with dY:=μ} μ φ a w K Q (hY.FM hR.dY) (hR.FM (fun _ _ h=>h) hR.dY) fun v f' m' y w' μ' φ' h0 h1 h2 h3 h4=>hK v f' m' y w' μ' φ' h0 h1.dY (h1.La hR.dY) h2 h3 h4
end
section
variable {R:Type} {E:Env}
variable{site:Nat}{o:Oper}{k:V→Fr→Mem→bN→Option R}
theorem Ux{f:Fr}{m:Mem}{sp:Sp}{r:R}(hs:FC E site o f m=some sp)(h:xsp E site sp f m k=some r):∃v wr,k v (kf (sp.info site).1 f) (Ak wr (km (sp.info site).1 m)) (sp.info site).2=some r∧(∀x∈wr,(true,x.1)∈(sp.info site).2)∧(∀x∈(sp.info site).1,(true,x.2)∈(sp.info site).2)∧(∀(f2:Fr)(m2:Mem)(R':Type)(k':V→Fr→Mem→bN→Option R'),xsp E site sp f2 m2 k'=k' v (kf (sp.info site).1 f2) (Ak wr (km (sp.info site).1 m2)) (sp.info site).2)∧(∀c,o.op≠.defer c)∧Bj E false site o f m v (kf (sp.info site).1 f) (Ak wr (km (sp.info site).1 m)) (sp.info site).2:=by
 obtain⟨dst,op,type,pos,after,guard⟩:=o;unfold FC at hs;cases op;case store t a x=>
  simp only at hs;split at hs
  ·rename_i id i off ha;split at hs
   ·rename_i s et es hm;split at hs
    ·rename_i cs hc;split at hs
     ·rename_i ps j id2 ht;split at hs
      ·rename_i nB;simp only[cO]at hs;subst hs;simp only[amm,cT,asO]at nB;obtain⟨⟨hb,h0⟩,cV⟩:=nB;have cV:id2≠id:=fun e=>by simp_all
       unfold xsp at h;obtain⟨e,he,h⟩:=By.1 h;refine⟨_,_,h,by simp[Sp.info],by simp[Sp.info],fun f2 m2 R' k'=>by simp only[xsp,he,asq];rfl,by simp,⟨fun h=>(nomatch h),fun _ h=>absurd (h (true,id) (by simp[Sp.info])) (by simp),fun w0 μ φ ac w K Q hR hK=>?_⟩⟩;obtain⟨w',φ',u1,u2,u3⟩:=aco hm hc ht hb h0 cV he hR.toaL hR.mS (by have:=(aA hR a).1;rw[ha]at this;exact this) (aA hR x).1;exact CS (by simp[execOp,u1]) (hK undef w' μ φ' u2 u3 .top (by simp))
      ·cases hs
     ·cases hs
    ·cases hs
   ·cases hs
  ·cases hs
 case buildSlice t len parts=>
  simp only at hs;split at hs
  ·rename_i e v hu hp;split at hs
   ·rename_i cs hc;split at hs
    ·rename_i ps j id2 ht amR;split at hs
     ·rename_i p PF;split at hs
      ·rename_i nB;simp only[cO]at hs;subst hs;simp only[amm,cT]at nB;obtain⟨⟨⟨hlen,eS⟩,hsm⟩,hz⟩:=nB;have hlen:=Ka hlen;subst hlen;refine⟨_,_,h,by simp[Sp.info],by simp[Sp.info],fun f2 m2 R' k'=>rfl,by simp,⟨fun h=>(nomatch h),fun h _=>by(simp[fW]at h),fun w0 μ φ ac w K Q hR hK=>?_⟩⟩;obtain⟨x,hx,hxv⟩:∃x,parts= #[(0,x)]∧bR E f x=v:=by
        obtain⟨l⟩:=parts;match l,hp with
        |[(a,x)],hp=>simp_all
       subst hx;obtain⟨y,w',φ',u1,u2,u3,u4⟩:=aaa hu hc ht amR PF eS hsm hz hR.toaL hR.mS (by have:=(aA hR x).1;rw[hxv]at this;exact this);exact gA (y:=y) (w':=w') (by simp_all[execOp,Sem.run_bind,Result.andThen_ok,Sem.run_pure]) (hK y w' μ φ' u2 u3 u4 fun j hj=>by have hj:=Ka hj;subst hj;simp[Ak])
      ·cases hs
     ·cases hs
    ·cases hs
   ·cases hs
  ·cases hs
 case call c=>
  obtain⟨callee,args,argTypes⟩:=c;simp only at hs;split at hs
  ·rename_i id x t t' ha Uv;split at hs
   ·rename_i e s et es hu hm;split at hs
    ·rename_i nB;simp only[amm,cT]at nB;obtain⟨⟨⟨⟨⟨h1,h2⟩,h3⟩,h4⟩,h5⟩,h6⟩:=nB;subst h3;have h1:et=e:=by omega
     subst h1;have wy:∃y z,args= #[y,z]∧bR E f y=.os id∧bR E f z=x:=by
      obtain⟨l⟩:=args;rcases l with _|⟨y,_|⟨z,_|⟨u,l⟩⟩⟩
      ·simp at ha
      ·simp at ha
      ·grind
      ·simp at ha
     obtain⟨y,z,rfl,hy,hz⟩:=wy;have ag0:argTypes= #[t',t']:=atO (by omega);subst ag0;have main:∀(new:List PV)(src:Option Nat)(rd:bN),sp=.app id s et es new src rd→((∃id2,src=some id2∧id2≠id∧x=.os id2∧m id2=some (.nest s et new))∨(src=none∧ga m s x=some (new,rd)))→∃v wr,k v (kf (sp.info site).1 f) (Ak wr (km (sp.info site).1 m)) (sp.info site).2=some r∧(∀x∈wr,(true,x.1)∈(sp.info site).2)∧(∀x∈(sp.info site).1,(true,x.2)∈(sp.info site).2)∧(∀(f2:Fr)(m2:Mem)(R':Type)(k':V→Fr→Mem→bN→Option R'),xsp E site sp f2 m2 k'=k' v (kf (sp.info site).1 f2) (Ak wr (km (sp.info site).1 m2)) (sp.info site).2)∧(∀c,(⟨dst,.call ⟨.builtin .append,#[y,z],#[t',t']⟩,type,pos,after,guard⟩:Oper).op≠.defer c)∧Bj E false site ⟨dst,.call ⟨.builtin .append,#[y,z],#[t',t']⟩,type,pos,after,guard⟩ f m v (kf (sp.info site).1 f) (Ak wr (km (sp.info site).1 m)) (sp.info site).2:=by
      intro new src rd Ey FL;subst Ey;simp only[xsp]at h;split at h
      ·rename_i ee;have hw:(true,id)∈(Sp.info site (.app id s et es new src rd)).2:=by cases src<;>simp[Sp.info]
       have hkm:Ak [(id,.nest s et (es++new))] (km (Sp.info site (.app id s et es new src rd)).1 m)=aD (bF (bS id (Wx src m)) id) id (.nest s et (es++new)):=by cases src<;>rfl
       have hkf:kf (Sp.info site (.app id s et es new src rd)).1 f=fD id (kfS src f):=by cases src<;>rfl
       refine⟨_,_,h,fun q hq=>(by simp_all),fun q hq=>?_,fun f2 m2 R' k'=>by simp only[xsp];rw[IN ee],by simp,⟨fun h=>(nomatch h),fun _ h=>absurd (h (true,id) hw) (by simp),fun w0 μ φ ac w K Q hR hK=>?_⟩⟩
       ·cases src<;>simp only[Sp.info,asm,atF,avj]at hq⊢
        ·subst hq;simp
        grind
       ·obtain⟨w',y',φ',u1,u2,u3,u4⟩:=aac (ty:=type) hu hm h2 h4 h5 h6 ee FL hR.toaL hR.mS (by have:=(aA hR y).1;rw[hy]at this;exact this) (by have:=(aA hR z).1;rw[hz]at this;exact this);exact gA (y:=y') (w':=w') (by simp[execOp,resolve,invoke,builtin,u1]) (hK y' w' μ φ' (by rw[hkm];omega) (by rw[hkm,hkf];omega) u4 fun j hj=>by have hj:=Ka hj;subst hj;simp[Ak])
      ·cases h
     split at hs
     ·rename_i yn;split at hs
      ·rename_i s' M9 new hm';split at hs
       ·rename_i hc2;simp only[amm,cT]at hc2;obtain⟨⟨c1,c2⟩,c3⟩:=hc2;have c1:=Ka c1;subst c1;subst c2;simp only[cO]at hs;exact main new (some yn) [] hs.symm (.inl ⟨yn,rfl,fun e=>by simp_all,rfl,hm'⟩)
       ·cases hs
      grind
     grind
    ·cases hs
   ·cases hs
  ·cases hs
 case mapUpdate t x key v=>
  simp only at hs;split at hs
  ·rename_i kt et id id2 hu hx hv;split at hs
   ·rename_i Cx e es s e' rs kp h1 h2 hk;split at hs
    ·rename_i nB;simp only[cO]at hs;subst hs;simp only[amm,cT]at nB;obtain⟨⟨hkt,hee⟩,_⟩:=nB;subst hkt;subst hee;refine⟨_,_,h,by simp[Sp.info],by simp[Sp.info],fun f2 m2 R' k'=>rfl,by simp,⟨fun h=>(nomatch h),fun h _=>by(simp[fW]at h),fun w0 μ φ ac w K Q hR hK=>?_⟩⟩;obtain⟨w',φ',u1,u2,u3⟩:=aab hu h1 h2 hk hR.toaL hR.mS (by have:=(aA hR x).1;rw[hx]at this;exact this) (aA hR key).1 (by have:=(aA hR v).1;rw[hv]at this;exact this);exact CS (by simp[execOp,u1]) (hK undef w' μ φ' u2 u3 .top (by simp))
    ·cases hs
   ·cases hs
  ·cases hs
 all_goals (cases hs)
theorem PG(hE:mb E){draw:Bool}{f:Fr}{m:Mem}{r:R}(h:Q6 E draw site o f m k=some r):(∃v f' m' ft,k v f' m' ft=some r∧Bj E draw site o f m v f' m' ft)∨(draw=false∧Ln E o f m k r):=by
 unfold Q6 at h;split at h
 ·rename_i sp Ey;cases draw with
  |true=>cases Ey
  |false=>simp only[cond]at Ey;grind [Ux]
 ·exact agZ hE h
theorem Il{draw:Bool}{f:Fr}{m:Mem}{r:R}(h:Q6 E draw site o f m k=some r):∀c,o.op≠.defer c:=by
 unfold Q6 at h;split at h
 ·rename_i sp Ey;cases draw with
  |true=>cases Ey
  |false=>simp only[cond]at Ey;grind [Ux]
 ·exact Uw h
end
end Go.Ab
