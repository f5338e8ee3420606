import Derived.Test.YtoaknfoobjnjgaaGreatAbP5
import Derived.Lib.SliceRun
import Derived.Laws.IdiomStrings
set_option linter.all false
namespace Go.Ab
open Go.RowKit (Below)
section
variable {R:Type} {E:Env}
variable{t:TypeId}
theorem LL{P:Program}{w:World}{ms:Array (String×TypeId)}(hu:P.underlying t=some (.interface ms)){b:Bool}{x:Value}{μ:Ro}(hx:aq P μ (.Wm b) x):(Op.equalIn 10000 t x .nilIface).run P w=.ok (!b) w:=by show(Op.equalIn (9999+1) t x .nilIface).run P w=.ok (!b) w;cases hx<;>(unfold Op.equalIn;simp only[Sem.run_bind,run_underlying hu,Result.andThen_ok];rfl)
theorem G9{P:Program}{w:World}{op:BinOp}{ox:Operand}{c:Value}{b:Bool}{x:Value}{μ:Ro}(hx:aq P μ (.Wm b) x):(eqGuard op t ox (.const c) x .nilIface).run P w=.ok () w:=by
 cases hx
 ·rw[eqGuard_nil_constR];rfl
 ·rename_i d z;have:eqGuard op t ox (.const c) (.iface d z) .nilIface=pure ():=by cases op<;>rfl
  rw[this];rfl
theorem ZE{op:BinOp}{oy:Operand}{a b:V}{k:PV→Option R}{r:R}(h:OJ E op t oy a b k=some r):∃q,(∀(R':Type)(k':PV→Option R'),OJ E op t oy a b k'=k' q)∧k q=some r∧∀(μ:Ro)(φ:Nat→aH)(w:World)(ox:Operand)(x y:Value),(Ig oy=true→y=.nilIface)→an E.P μ φ a x→an E.P μ φ b y→∃z,(wS op t ox oy x y).run E.P w=.ok z w∧aq E.P μ q z:=by
 unfold OJ at h⊢;cases hn:Ig oy with
 |false=>rw[hn]at h;obtain⟨q,q1,q2,q3⟩:=ady h;exact⟨q,fun R' k'=>q1 R' k',q2,fun μ φ w ox x y _ hx hy=>q3 μ φ w ox oy x y hx hy⟩
 |true=>
  rw[hn]at h;simp only[cond]at h⊢;have hoy:oy=.const .nilIface:=by unfold Ig at hn;grind
  subst hoy;unfold YU at h⊢;split at h
  ·rename_i c;split at h
   ·rename_i ms hu;refine⟨_,fun R' k'=>by rfl,h,fun μ φ w ox x y hy hx _=>?_⟩;have:=hy trivial;subst this;cases hx with
    |pv hx=>exact⟨_,bZ (G9 hx) (jw (by cases hx<;>rfl) (LL hu hx)),.bool⟩
   ·rename_i ms hu;refine⟨_,fun R' k'=>by rfl,h,fun μ φ w ox x y hy hx _=>?_⟩;have:=hy trivial;subst this;cases hx with
    |pv hx=>refine⟨_,bZ (G9 hx) (jx (by cases hx<;>rfl) (LL hu hx)),?_⟩;rw[ari];exact .bool
   ·cases h
  ·cases h
theorem LM{P:Program}{μ:Ro}:∀{es:List PV}{b:Bytes}{xs:List Value},FE es=some b→Cells P μ 1 es xs→b.length=es.length∧xs=b.map fun c=>.int .u8 (c.toNat:Int)
 |[],b,xs,h,hC=>by simp only[FE,tb]at h;subst h;have:=hC.len;simp_all
 |e::es,b,xs,h,hC=>by
  unfold FE at h;split at h
  ·rename_i he;cases he
  ·rename_i n r he;simp only[ao6]at he;obtain⟨rfl,rfl⟩:=he;obtain⟨b',jn,rfl⟩:=alj.1 h;cases xs with
   |nil=>have:=hC.len;simp at this
   |cons x xs=>
    have hx:x=.int .u8 n∧(Lit.int .u8 n).wf=true:=by
     have:=hC.rep 0 _ 0 _ x rfl rfl rfl;cases this with
     |int hw=>exact⟨rfl,hw⟩
    obtain⟨rfl,hw⟩:=hx;have hC':Cells P μ 1 es xs:=⟨by have:=hC.len;simp at this⊢;omega,fun i e hi=>hC.each (i+1) e (by simpa using hi),fun i e j p y hi hj hy=>hC.rep (i+1) e j p y (by simpa using hi) hj (by grind),fun i y hy=>hC.one (i+1) y (by simpa using hy)⟩;obtain⟨h1,h2⟩:=LM jn hC';refine⟨by simp[h1],?_⟩;rw[aog,←h2];rw[yX]at hw;grind [IntKind.min,IntKind.max,IntKind.signed,IntKind.bits,UInt8.ofNat,UInt8.toNat_ofNat']
  ·cases h
theorem WV{s d:TypeId}{a:V}{m:Mem}{k:PV→bB→Option R}{r:R}(h:FF E s d a m k=some r):∃q ft,(∀m2:Mem,(∀x∈ft,m2 x.2=m x.2)→∀(R':Type)(k':PV→bB→Option R'),FF E s d a m2 k'=k' q ft)∧k q ft=some r∧(∀x∈ft,x.1=false)∧∀(G:Nat→Option (List PV))(w0:bu)(μ:Ro)(φ:Nat→aH)(w:World)(x:Value),aA E.P G w0 μ φ m w→an E.P μ φ a x→∃z,(convert s d x).run E.P w=.ok z w∧aq E.P μ q z:=by
 unfold FF at h;split at h
 ·rename_i e hs hd;split at h
  ·rename_i es ft hu G0;obtain⟨b,hb,hk⟩:=By.1 h;obtain⟨e1,e2,e3⟩:=qE G0;refine⟨.str b,ft,fun m2 cG R' k'=>by simp_all[FF,aoe],hk,e2,fun G w0 μ φ w x hM hx=>?_⟩;have CK:=e3 _ _ _ _ _ _ _ hM hx;cases CK with
   |none he=>subst he;simp only[FE,tb]at hb;subst hb;exact⟨_,by simp[convert,run_underlying hs,run_underlying hd,run_underlying hu,Conv.bytesToString];rfl,.str (by decide)⟩
   | @some a c xs hC hc hl hm=>obtain⟨h1,h2⟩:=LM hb hC;subst h2;rw[←h1];refine⟨_,run_convert_bytes_back w s d e a c b hs hu hd fun j hj=>hc j _ (by grind),.str (by omega)⟩
  ·cases h
 ·rename_i A1;obtain⟨q,q1,q2,q3⟩:=Zh h;refine⟨q,[],fun m2 _ R' k'=>?_,q2,by simp,fun G w0 μ φ w x _ hx=>q3 μ φ w x hx⟩;simp_all[FF,absurd]
end
structure zd(E:Env)(draw:Bool)(site:Nat)(o:Oper)(f:Fr)(m:Mem)(v:V)(f':Fr)(m':Mem)(ft:bB):Prop where
 drawn:draw=true→f'=f∧∃wr:List (Nat×bL),m'=vT wr m∧(∀x∈wr,(true,x.1)∈ft)∧∀(f2:Fr)(m2:Mem),(∀x∈o.op.operands,bJ E f2 x=bJ E f x)→(∀x∈ft,m2 x.2=m x.2)→∀(R':Type)(k':V→Fr→Mem→bB→Option R'),cg E true site o f2 m2 k'=k' v f2 (vT wr m2) ft
 same:fH o=true→(∀x∈ft,x.1=false)→f'=f∧m'=m
 sound:∀(w0:bu)(μ:Ro)(φ:Nat→aH)(a:Act)(w:World)(K:Act→World→Prop)(Q:Exit→Act→World→Prop),Rel E.P E.az E.fn.ntmps w0 μ φ f m a w→(∀y w' μ' φ',aA E.P E.az w0 μ' φ' m' w'→cd E.P μ' φ' m' f' (bV E.fn.ntmps w0 a)→an E.P μ' φ' v y→(∀id,v.has id=true→(m' id).isSome=true)→K (a.put o.dst y) w')→o.wp E.P a w K Q
def FR(rd:Option Nat):Fence:={Fence.wide with round:=rd}
variable{rd:Option Nat}{P:Program}
theorem FR.adF{m m':Machine}:StepsIn (Machine.fenced P (FR rd)) P m m'↔Steps P m m':=stepsIn_wide (P:=P)
variable{args:Array Value}{w:World}{R:Ending→World→Prop}
theorem FR.Ud{n:Nat}{f:FuncId}(h:Calls P f args w R):CallsIn (FR rd) n P f args w R:=(callsIn_wide (n:=n)).2 h
theorem FR.afQ{n:Nat}{row:String}{R:Value→World→Prop}(h:Rows P row args w R):RowsIn (FR rd) n P row args w R:=fun c cs _=>let⟨v,w',r,s⟩:=h c cs;⟨v,w',r,FR.adF.2 s⟩
theorem FR.adG{n n':Nat}{l:Nat}{f:FuncId}{tmps:Array Value}{assign body:Code}(h:RoundIn Fence.wide n P l f tmps assign body w R):RoundIn (FR rd) n' P l f tmps assign body w R:=⟨trivial,fun c cs _=>h.2 c cs (room_wide _)⟩
theorem FV{o:Oper}{a:Act}{K:Act→World→Prop}{Q:Exit→Act→World→Prop}(hd:∀c,o.op≠.defer c)(h:o.wp P a w K Q):o.wpIn (FR rd) 0 P a w K Q:=by
 refine⟨fun _ _=>trivial,?_⟩;rw[Oper.semAt_eq _ _ _ hd];unfold Oper.wp at h;cases hr:(execOp a.eval o).run P w with
 |ok nx w'=>
  rw[hr]at h;cases nx with
  |value v=>exact h
  |skip=>exact h
  |defer d=>exact h
  |enter f args=>exact⟨fun h=>(by cases h),FR.Ud h⟩
  |row row args=>exact⟨fun h=>(by cases h),FR.afQ h⟩
  |_=>exact h.elim
 |halt h' w'=>
  rw[hr]at h;cases h' with
  |panic v=>exact h
  |_=>exact h.elim
def Jc{R:Type}(E:Env)(o:Oper)(f:Fr)(m:Mem)(k:V→Fr→Mem→bB→Option R)(r:R):Prop:=
 (∀c x y,o.op≠.pick c x y)∧
 ∀(rd:Option Nat)(w0:bu)(μ:Ro)(φ:Nat→aH)(a:Act)(w:World)(K:Act→World→Prop)(Q:Exit→Act→World→Prop),tA E.P E.az E.fn.ntmps E.yl w0→Rel E.P E.az E.fn.ntmps w0 μ φ f m a w→(∀v f' m' y w' μ' φ',k v f' m' [(true,0)]=some r→aA E.P E.az w0 μ' φ' m' w'→cd E.P μ' φ' m' f' (bV E.fn.ntmps w0 a)→an E.P μ' φ' v y→(∀id,v.has id=true→(m' id).isSome=true)→K (a.put o.dst y) w')→o.wpIn (FR rd) 0 E.P a w K Q
section
variable {R:Type} {E:Env}
variable{w0:bu}{μ:Ro}{φ:Nat→aH}{f:Fr}{m:Mem}{a:Act}{w:World}
theorem Rel.kO(h:Rel E.P E.az E.fn.ntmps w0 μ φ f m a w):cd E.P μ φ m f (bV E.fn.ntmps w0 a):=⟨h.fr,h.live⟩
variable{P:Program}{o:Oper}{K:Act→World→Prop}{Q:Exit→Act→World→Prop}
theorem gk{w':World}{y:Value}(hr:(execOp a.eval o).run P w=.ok (.value y) w')(h:K (a.put o.dst y) w'):o.wp P a w K Q:=by unfold Oper.wp;rw[hr];exact h
theorem A2{w':World}(hr:(execOp a.eval o).run P w=.ok .skip w')(h:K (a.put o.dst undef) w'):o.wp P a w K Q:=by unfold Oper.wp;rw[hr];exact h
variable{draw:Bool}{site:Nat}{v:V}
theorem zd.read{ft:bB}(nat:∀(f2:Fr)(m2:Mem),(∀x∈o.op.operands,bJ E f2 x=bJ E f x)→(∀x∈ft,m2 x.2=m x.2)→∀(R':Type)(k':V→Fr→Mem→bB→Option R'),cg E true site o f2 m2 k'=k' v f2 m2 ft)(hs:∀(w0:bu)(μ:Ro)(φ:Nat→aH)(a:Act)(w:World),Rel E.P E.az E.fn.ntmps w0 μ φ f m a w→∃y,(execOp a.eval o).run E.P w=.ok (.value y) w∧an E.P μ φ v y∧∀id,v.has id=true→(m id).isSome=true):zd E draw site o f m v f m ft:=by refine⟨fun _=>⟨rfl,[],rfl,by simp,nat⟩,fun _ _=>⟨rfl,rfl⟩,fun w0 μ φ a w K Q hR hK=>?_⟩;obtain⟨y,hr,hy,hl⟩:=hs w0 μ φ a w hR;exact gk hr (hK y w μ φ hR.toaA hR.kO hy hl)
variable{m':Mem}
theorem zd.make{f':Fr}{b:bL}(hd:draw=true→m site=none∧f'=f∧m'=aw m site b)(nat:draw=true→∀(f2:Fr)(m2:Mem),(∀x∈o.op.operands,bJ E f2 x=bJ E f x)→m2 site=none→∀(R':Type)(k':V→Fr→Mem→bB→Option R'),cg E true site o f2 m2 k'=k' v f2 (aw m2 site b) [(true,site)])(hs:∀(w0:bu)(μ:Ro)(φ:Nat→aH)(a:Act)(w:World),Rel E.P E.az E.fn.ntmps w0 μ φ f m a w→∃y w' μ' φ',(execOp a.eval o).run E.P w=.ok (.value y) w'∧aA E.P E.az w0 μ' φ' m' w'∧cd E.P μ' φ' m' f' (bV E.fn.ntmps w0 a)∧an E.P μ' φ' v y∧∀id,v.has id=true→(m' id).isSome=true):zd E draw site o f m v f' m' [(true,site)]:=by
 refine⟨fun h=>?_,fun _ h=>by simp_all,fun w0 μ φ a w K Q hR hK=>?_⟩
 ·obtain⟨h1,h2,h3⟩:=hd h;exact⟨h2,[(site,b)],h3,by simp,fun f2 m2 hf hm R' k'=>nat h f2 m2 hf (by simp_all) R' k'⟩
 grind [gk]
variable{args:Array Operand}
theorem mw(h:Rel E.P E.az E.fn.ntmps w0 μ φ f m a w):(args.toList.map (bJ E f)).length=(args.map a.eval).size∧∀(i:Nat)v x,(args.toList.map (bJ E f))[i]?=some v→(args.map a.eval)[i]?=some x→an E.P μ φ v x:=by refine⟨by simp,fun i v x hv hx=>?_⟩;simp only[AT,alj]at hv;obtain⟨o,ho,rfl⟩:=hv;grind [Option.some.injEq,au]
theorem ua(h:Rel E.P E.az E.fn.ntmps w0 μ φ f m a w){args:List Operand}{id:Nat}(hid:cp id (args.map (bJ E f))=true):(m id).isSome=true:=by obtain⟨v,hv,hh⟩:=cK.1 hid;obtain⟨o,_,rfl⟩:=aoi.1 hv;exact(au h o).2 id hh
theorem qY{f2:Fr}{l:List Operand}(h:∀x∈l,bJ E f2 x=bJ E f x):l.map (bJ E f2)=l.map (bJ E f):=aoB h
theorem vY{f2:Fr}{l:List (Nat×Operand)}(h:∀x∈l,bJ E f2 x.2=bJ E f x.2):(l.map fun(x:Nat×Operand)=>(x.1,bJ E f2 x.2))=l.map fun(x:Nat×Operand)=>(x.1,bJ E f x.2):=aoB fun x hx=>by rw[h x hx]
variable{g:FuncId}
theorem Ct{fn:Func}{c:Code}(hf:P.funcs[g]?=some fn)(aeZ:(fn.name== "runtime.NumGoroutine")=false)(hb:fn.body=some c){args:Array Value}:(callFunc g args).run P w=.ok (.enter g args) w:=by simp_all[callFunc]
theorem uB{b:Bool}{x:Value}(h:an P μ φ (.pv (.bool b)) x):x=.bool b:=by cases h with|pv h=>cases h;rfl
theorem ZF{p:PV}(h:Ie cY v=some (p,m'))(m:Mem):Ie m v=some (p,m):=by unfold Ie at h⊢;grind [Option.some.injEq,Prod.mk.injEq,cY]
theorem FW:∀{cs:List V}{ps:List PV}{m':Mem},nR cY cs=some (ps,m')→∀m:Mem,nR m cs=some (ps,m)
 |[],ps,m',h,m=>by simp only[nR,tb,afu]at h;rw[←h.1];rfl
 |c::r,ps,m',h,m=>by
  simp only[nR]at h;split at h
  ·rename_i p m1 h1;have e1:=uw h1;subst e1;split at h
   ·rename_i ps1 m2 h2;simp only[tb,afu]at h;simp only[nR,ZF h1 m,FW h2 m,h.1]
   ·cases h
  ·cases h
theorem Ha:∀{cs:List V}{ps:List PV}{m':Mem},nR cY cs=some (ps,m')→m'=cY
 |[],ps,m',h=>by simp_all[nR,tb,afu]
 |c::r,ps,m',h=>by
  simp only[nR]at h;split at h
  ·rename_i p m1 h1;have e1:=uw h1;subst e1;split at h
   ·rename_i ps1 m2 h2;simp only[tb,afu]at h;rw[←h.2];exact Ha h2
   ·cases h
  ·cases h
theorem Pb{n:Nat}{agg:Bool}{p:PV}(h:k9 cY n agg v=some (p,m')):m'=cY∧∀m:Mem,k9 m n agg v=some (p,m):=by
 unfold k9 at h;split at h
 ·rename_i cs hc;split at h
  ·rename_i ps m1 h1;have e1:=Ha h1;subst e1;cases agg with
   |true=>simp only[BY,tb,afu]at h;refine⟨h.2.symm,fun m=>?_⟩;unfold k9;simp only[hc,FW h1 m,BY,h.1]
   |false=>
    simp only[AI,OF]at h;split at h
    ·simp only[tb,afu]at h;refine⟨h.2.symm,fun m=>?_⟩;unfold k9;simp only[hc,FW h1 m,AI,OF,h.1]
    ·cases h
  ·cases h
 ·cases h
theorem uC{n:Nat}{agg:Bool}:∀{parts:List (Nat×V)}{i:Nat}{ps:List PV}{m':Mem},fF cY n agg i parts=some (ps,m')→m'=cY∧∀m:Mem,fF m n agg i parts=some (ps,m)
 |[],i,ps,m',h=>by simp_all[fF,tb,afu]
 |(j,v)::r,i,ps,m',h=>by
  simp only[fF]at h;split at h
  ·rename_i Zq;split at h
   ·rename_i p m1 h1;obtain⟨e1,e2⟩:=Pb h1;subst e1;split at h
    ·rename_i ps1 m2 h2;obtain⟨e3,e4⟩:=uC h2;simp_all[tb,afu,fF,No]
    ·cases h
   ·cases h
  ·cases h
def EB(g:FuncId)(xs ys:Array Value):Array Value:=bif Nat.blt g Ic then ys++xs else xs++ys
theorem Ue{caps args:List V}{xs ys:Array Value}(e1:args.length=ys.size)(h1:∀(i:Nat)v x,args[i]?=some v→ys[i]?=some x→an P μ φ v x)(e2:caps.length=xs.size)(h2:∀(i:Nat)v x,caps[i]?=some v→xs[i]?=some x→an P μ φ v x):(Dk g caps args).length=(EB g xs ys).size∧∀(i:Nat)v x,(Dk g caps args)[i]?=some v→(EB g xs ys)[i]?=some x→an P μ φ v x:=by unfold Dk EB;grind
theorem ZG{caps args:List V}(h:v∈Dk g caps args):v∈args∨v∈caps:=by unfold Dk at h;grind
theorem ZH(g:FuncId)(xs:Array Value):Er (g+Ic) xs=.func (.func g) xs #[]:=by simp[Er,QU,Nat.le_add_left,apq]
theorem ze{site:Nat}:∀{ts:List TypeId}{j:Nat}{F:Fr}{m:Mem}{k:Fr→Mem→Option R}{r:R},Ce E site ts j F m k=some r→∃F' m',k F' m'=some r∧∀(G:Nat→Option (List PV))(w0:bu)(μ:Ro)(φ:Nat→aH)(w:World)(ρ:Nat→Value),aA E.P G w0 μ φ m w→cd E.P μ φ m F ρ→∃φ',aA E.P G w0 μ φ' m' w∧cd E.P μ φ' m' F' ρ
 |[],j,F,m,k,r,h=>⟨F,m,h,fun G w0 μ φ w ρ hM hF=>⟨φ,hM,hF⟩⟩
 |t::ts,j,F,m,k,r,h=>by
  simp only[Ce]at h;split at h
  ·rename_i hj;split at h
   ·rename_i e hu;split at h
    ·rename_i eY;obtain⟨f1,m1,hn,hk,Ak,AH,yW⟩:=cj h;obtain⟨F',m',c1,c2⟩:=ze hk;refine⟨F',m',c1,fun G w0 μ φ w ρ hM hF=>?_⟩;obtain⟨φ',a1,a2,a3⟩:=yW E.P G w0 μ φ w w ρ (GU none 0 0 (aS E.P e)) hM hF ⟨lh.refl _ _,hM.ro,fun _ _ _ _ _=>rfl,by simp,fun φ' hp _=>by refine⟨by rw[hp];rfl,by rw[hp],rfl,eY,by simp,by rw[hp];simp[maxLen],?_⟩;simp_all,by simp[bL.names],fun g o h=>⟨(hM.hid g o h).1,by simp⟩,fun st h=>by cases h⟩;have hv:ρ j=.slice none 0 0:=by have:=hF.fr j;rw[hj]at this;generalize ρ j=y at this;cases this;rfl
     refine c2 G w0 μ φ' w ρ a2 ⟨fun s=>?_,fun s id hid=>?_⟩
     ·by_cases e:s=j
      ·subst e;rw[show gJ f1 s (.os (xX site s)) s=.os (xX site s) by simp_all,hv];exact .vO (by rw[a1])
      ·rw[ur e];exact a3.fr s
     ·by_cases e:s=j
      ·subst e;rw[show gJ f1 s (.os (xX site s)) s=.os (xX site s) by simp_all]at hid;have hid:=IT hid;subst hid;simp[Ak]
      ·rw[ur e]at hid;exact a3.live s id hid
    ·cases h
   ·cases h
  ·exact ze h
variable{k:V→Fr→Mem→bB→Option R}{r:R}
theorem adH(hE:jM E)(h:cg E draw site o f m k=some r)(hc:∀c,o.op≠.call c)(hb:∀op t x y ty s es,o.op=.binOp op t x y ty→bJ E f x=.pv (.rs s es)→bJ E f y≠.fM)(hit:Rs o.op=false):∃v f' m' ft,k v f' m' ft=some r∧zd E draw site o f m v f' m' ft:=by
 obtain⟨dst,op,type,pos,after,guard⟩:=o;unfold cg at h;cases op<;>simp only at h;case move x=>refine⟨_,_,_,_,h,.read (fun f2 m2 hf _ R' k'=>by simp only[cg];rw[hf x (by simp[Op.operands])]) fun w0 μ φ a w hR=>⟨_,rfl,(au hR x).1,(au hR x).2⟩⟩
 case pick c x y=>
  split at h
  ·rename_i t hc;cases t with
   |true=>simp only[BY]at h;refine⟨_,_,_,_,h,.read (fun f2 m2 hf _ R' k'=>by simp only[cg];rw[hf c (by simp[Op.operands]),hf x (by simp[Op.operands]),hc];simp) fun w0 μ φ a w hR=>?_⟩;have h1:=(au hR c).1;rw[hc]at h1;exact⟨a.eval x,by simp[execOp,Go.asBool,uB h1],(au hR x).1,(au hR x).2⟩
   |false=>simp only[AI,OF]at h;refine⟨_,_,_,_,h,.read (fun f2 m2 hf _ R' k'=>by simp only[cg];rw[hf c (by simp[Op.operands]),hf y (by simp[Op.operands]),hc];simp) fun w0 μ φ a w hR=>?_⟩;have h1:=(au hR c).1;rw[hc]at h1;exact⟨a.eval y,by simp[execOp,Go.asBool,uB h1],(au hR y).1,(au hR y).2⟩
  ·cases h
 case assign x=>
  have mk:∀{v},bJ E f x=v→(v=.fM→∀e,E.P.underlying type≠some (.slice e))→k v f m []=some r→∃v f' m' ft,k v f' m' ft=some r∧zd E draw site {dst,op:=.assign x,type,pos,after,guard} f m v f' m' ft:=by
   intro v hv bU hk;refine⟨v,f,m,[],hk,.read (fun f2 m2 hf _ R' k'=>?_) fun w0 μ φ a w hR=>⟨_,rfl,hv▸(au hR x).1,hv▸(au hR x).2⟩⟩;simp only[cg];rw[hf x (by simp[Op.operands]),hv];cases v<;>try rfl
   simp only;split
   ·rename_i e hu;exact absurd hu (bU rfl e)
   ·rfl
  split at h
  ·rename_i hx;split at h
   ·rename_i e hu;split at h
    ·rename_i eY;obtain⟨f',m',hn,hk,Ak,AH,yW⟩:=cj h;refine⟨_,_,_,_,hk,.make AH (fun _ f2 m2 hf hs R' k'=>?_) fun w0 μ φ a w hR=>?_⟩
     ·simp only[cg];rw[hf x (by simp[Op.operands]),hx];simp only[hu,eY,BY,fresh,hs]
     ·have h1:=(au hR x).1;rw[hx]at h1;obtain⟨φ',a1,a2,a3⟩:=yW E.P E.az w0 μ φ w w _ (GU none 0 0 (aS E.P e)) hR.toaA hR.kO ⟨lh.refl _ _,hR.ro,fun _ _ _ _ _=>rfl,by simp,fun φ' hp _=>by refine⟨by rw[hp];rfl,by rw[hp],rfl,eY,by simp,by rw[hp];simp[maxLen],?_⟩;rw[hp];exact⟨rfl,rfl⟩,by simp[bL.names],fun g o h=>⟨(hR.hid g o h).1,by simp⟩,fun st h=>by cases h⟩;refine⟨.slice none 0 0,w,μ,φ',?_,a2,a3,.vO (by rw[a1]),fun id hid=>?_⟩
      ·simp only[execOp,Sem.run_pure];generalize a.eval x=y at h1;cases h1;rfl
      ·have hid:=IT hid;subst hid;simp[Ak]
    ·cases h
   ·rename_i hu;exact mk hx (fun _ e he=>hu e he) h
  ·rename_i hx;exact mk rfl (fun he=>absurd he hx) h
 case alloc t=>
  split at h
  ·rename_i cs hz;obtain⟨i,zv,z1,z2,z3,z4,z5,z6,z7,z8⟩:=du hz;cases KL:E.Fs site with
   |true=>
    rw[KL]at h;simp only[cond_true]at h;split at h
    ·rename_i n e ps hu qk;split at h
     ·rename_i hcc;obtain⟨ha,hl,eY,amh⟩:=hcc;obtain⟨f',m',hn,hk,Ak,AH,yW⟩:=cj h;obtain⟨q1,q2⟩:=gL qk;have qn:(qB (aS E.P e) n (.agg ps)).length=n:=by simp[qB]
      refine⟨_,_,_,_,hk,.make AH (fun _ f2 m2 hf hs R' k'=>by simp only[cg,hz,KL,hu,qk,cond_true];rw[No ⟨ha,hl,eY,amh⟩];simp only[fresh,hs]) fun w0 μ φ a w hR=>?_⟩;have ow:aq E.P μ (.agg ps) (.agg zv.cells):=.agg (by omega) (fun i p x hp hx=>by obtain⟨v,hv,hpo⟩:=q2 i p hp;have:=z7 μ φ i v x hv hx;cases v<;>simp[TO]at hpo;subst hpo;cases this with|pv h=>exact h) z8;have hC:Cells E.P μ (aS E.P e) (qB (aS E.P e) n (.agg ps)) (zv.cells.toList.take ((qB (aS E.P e) n (.agg ps)).length*aS E.P e)):=by
       refine⟨by rw[qn];simp;omega,fun i e' M8=>?_,fun i e' j p y hi hj hy=>?_,fun i y hy=>z8 i y (by simpa using(iS hy).2)⟩
       ·obtain⟨_,rfl⟩:=Dv M8;exact wX
       ·obtain⟨x',x1,x2,_⟩:=LD (k:=i*aS E.P e+j) ow (by omega) hi hj rfl;have:=(iS hy).2;rw[aoS,x1]at this;cases this;exact x2
      obtain⟨φ',a1,a2,a3⟩:=yW E.P E.az w0 μ φ w _ _ (GU (some w.heap.size) n (qB (aS E.P e) n (.agg ps)).length (aS E.P e)) hR.toaA hR.kO (l6.alloc (o:=.cells zv.cells t) hR.toaA rfl (fun φ' hp _=>aL.rL (g:=w.heap.size) (by rw[hp]) rfl eY (by rw[hp];simp only[maxLen,GU];omega) (ga w _) (by rw[hp];simp only[GU];omega) (by rw[hp,qn];exact aoa _) hC) (by simp[bL.names]));refine⟨.pointer (some ⟨w.heap.size,0,none⟩),w.alloc (.cells zv.cells t),μ,φ',by simp[execOp,Cq z1 z2],a2,a3,?_,fun id hid=>?_⟩
      ·have:=an.oe (P:=E.P) (μ:=μ) (φ:=φ') (id:=site) (i:=0) (off:=0) (g:=w.heap.size) (by rw[a1]);simpa using this
      ·have hid:=IT hid;subst hid;simp[Ak]
     ·cases h
    ·cases h
   |false=>
   rw[KL]at h;simp only[cond_false]at h;split at h
   ·rename_i ZI;have hdf:draw=false:=by simp only[aeu,aou]at ZI;exact ZI.1
    obtain⟨F,m1,g1,g2⟩:=ze h;obtain⟨f',m',hn,hk,Ak,AH,yW⟩:=cj g1;refine⟨_,_,_,_,hk,⟨fun hd=>(by rw[hdf]at hd;cases hd),fun _ h=>(by have:=h (true,site) (by simp);cases this),fun w0 μ φ a w K Q hR hK=>?_⟩⟩;have x1:cs.length=zv.cells.size:=by omega
    have x2:=z7 μ φ;have x3:=z8;have hF0:cd E.P μ φ m (Ah cs.length cs f) (fun t=>if t<cs.length then zv.cells.getD t undef else bV E.fn.ntmps w0 a (t-cs.length)):=by
     refine⟨fun t=>?_,fun t id hid=>?_⟩
     ·unfold Ah;by_cases ht:t<cs.length
      ·rw[show Nat.blt t cs.length=true by rw[ao9];exact ht,No ht];show an E.P μ φ (cs.getD t .top) _;have hx:t<zv.cells.size:=by omega
       rw[show cs.getD t .top=cs[t] by simp[List.getD,ht],show zv.cells.getD t undef=zv.cells[t] by simp[Array.getD,hx]];exact x2 t _ _ (ta ht) (Yh hx)
      ·rw[show Nat.blt t cs.length=false by rw[←aoZ,ao9];exact ht,QU ht];exact hR.kO.fr _
     ·unfold Ah at hid;cases e:Nat.blt t cs.length with
      |true=>
       rw[e]at hid;have ht:t<cs.length:=by rwa[ao9]at e
       have hid:(cs.getD t .top).has id=true:=hid;rw[show cs.getD t .top=cs[t] by simp[List.getD,ht]]at hid;exact absurd (bR (an7 ht) hid) (by rw[z6];simp)
      |false=>rw[e]at hid;exact hR.kO.live _ id hid
    obtain⟨φ1,y9,HF⟩:=g2 E.az w0 μ φ w _ hR.toaA hF0;have hF2:cd E.P μ φ1 m1 (AL cs.length F) (bV E.fn.ntmps w0 a):=by refine⟨fun t=>?_,fun t id hid=>HF.live _ id hid⟩;have:=HF.fr (t+cs.length);rw[QU (by omega),apq]at this;exact this
    have M7:∀(i:Nat)u y,((List.range cs.length).map F)[i]?=some u→zv.cells[i]?=some y→an E.P μ φ1 u y:=fun i u y hu hy=>by
     have hi:i<cs.length:=by have:=(IN.1 hu).1;simpa using this
     have uq:F i=u:=by simpa[hi]using hu
     have:=HF.fr i;rw[No hi,uq,show zv.cells.getD i undef=y by simp[am8,hy]]at this;exact this
    obtain⟨φ',a1,a2,a3⟩:=yW E.P E.az w0 μ φ1 w _ _ _ y9 hF2 (l6.box (T:=t) y9 (c:=zv.cells) (by simp;omega) M7 x3 (fun id hid=>by obtain⟨u,hu,hh⟩:=cK.1 hid;obtain⟨i,_,rfl⟩:=aoi.1 hu;exact HF.live i id hh));refine gk (y:=.pointer (some ⟨w.heap.size,0,none⟩)) (w':=w.alloc (.cells zv.cells t)) (by simp[execOp,Cq z1 z2]) (hK _ _ μ φ' a2 a3 (.op (by rw[a1])) fun id hid=>?_);have hid:=IT hid;subst hid;simp[Ak]
   rename_i ZI;have h:fresh draw site (.box cs) f m (fun f m ft=>k (.op site 0) f m ft)=some r:=h;obtain⟨f',m',hn,hk,Ak,AH,yW⟩:=cj h;refine⟨_,_,_,_,hk,.make AH (fun _ f2 m2 hf hs R' k'=>by simp only[cg,hz,KL,cond_false,fresh,hs,alk,apF,AI,OF]) fun w0 μ φ a w hR=>?_⟩;obtain⟨φ',a1,a2,a3⟩:=yW E.P E.az w0 μ φ w _ _ _ hR.toaA hR.kO (l6.box (T:=t) hR.toaA (c:=zv.cells) (by omega) (z7 μ φ) z8 (fun id hid=>by rw[z6]at hid;cases hid));refine⟨.pointer (some ⟨w.heap.size,0,none⟩),w.alloc (.cells zv.cells t),μ,φ',by simp[execOp,Cq z1 z2],a2,a3,.op (by rw[a1]),fun id hid=>?_⟩;have hid:=IT hid;subst hid;simp[Ak]
  ·cases h
 case box t x=>
  split at h
  ·rename_i cs hc;obtain⟨n1,n2,n3⟩:=toCells_ok hc;split at h
   ·rename_i ZI;have hdf:draw=false:=by simp only[aeu,aou]at ZI;exact ZI.1
    split at h
    ·rename_i ts hts;split at h
     ·rename_i hlen;obtain⟨F,m1,g1,g2⟩:=ze h;obtain⟨f',m',hn,hk,Ak,AH,yW⟩:=cj g1;refine⟨_,_,_,_,hk,⟨fun hd=>(by rw[hdf]at hd;cases hd),fun _ h=>(by have:=h (true,site) (by simp);cases this),fun w0 μ φ a w K Q hR hK=>?_⟩⟩;obtain⟨h1,h2⟩:=au hR x;obtain⟨x1,x2,x3⟩:=n3 _ _ _ _ h1;have hF0:cd E.P μ φ m (Ah cs.length cs f) (fun t=>if t<cs.length then(a.eval x).cells.getD t undef else bV E.fn.ntmps w0 a (t-cs.length)):=by
       refine⟨fun t=>?_,fun t id hid=>?_⟩
       ·unfold Ah;by_cases ht:t<cs.length
        ·rw[show Nat.blt t cs.length=true by rw[ao9];exact ht,No ht];show an E.P μ φ (cs.getD t .top) _;have hx:t<(a.eval x).cells.size:=by omega
         rw[show cs.getD t .top=cs[t] by simp[List.getD,ht],show(a.eval x).cells.getD t undef=(a.eval x).cells[t] by simp[Array.getD,hx]];exact x2 t _ _ (ta ht) (Yh hx)
        ·rw[show Nat.blt t cs.length=false by rw[←aoZ,ao9];exact ht,QU ht];exact hR.kO.fr _
       ·unfold Ah at hid;cases e:Nat.blt t cs.length with
        |true=>
         rw[e]at hid;have ht:t<cs.length:=by rwa[ao9]at e
         have hid:(cs.getD t .top).has id=true:=hid;rw[show cs.getD t .top=cs[t] by simp[List.getD,ht]]at hid;exact h2 id (n2 id (bR (an7 ht) hid))
        |false=>rw[e]at hid;exact hR.kO.live _ id hid
      obtain⟨φ1,y9,HF⟩:=g2 E.az w0 μ φ w _ hR.toaA hF0;have hF2:cd E.P μ φ1 m1 (AL cs.length F) (bV E.fn.ntmps w0 a):=by refine⟨fun t=>?_,fun t id hid=>HF.live _ id hid⟩;have:=HF.fr (t+cs.length);rw[QU (by omega),apq]at this;exact this
      have M7:∀(i:Nat)u y,((List.range cs.length).map F)[i]?=some u→(a.eval x).cells[i]?=some y→an E.P μ φ1 u y:=fun i u y hu hy=>by
       have hi:i<cs.length:=by have:=(IN.1 hu).1;simpa using this
       have uq:F i=u:=by simpa[hi]using hu
       have:=HF.fr i;rw[No hi,uq,show(a.eval x).cells.getD i undef=y by simp[am8,hy]]at this;exact this
      obtain⟨φ',a1,a2,a3⟩:=yW E.P E.az w0 μ φ1 w _ _ _ y9 hF2 (l6.box (T:=t) y9 (c:=(a.eval x).cells) (by simp;omega) M7 x3 (fun id hid=>by obtain⟨u,hu,hh⟩:=cK.1 hid;obtain⟨i,_,rfl⟩:=aoi.1 hu;exact HF.live i id hh));refine gk (y:=.pointer (some ⟨w.heap.size,0,none⟩)) (w':=w.alloc (.cells (a.eval x).cells t)) (by simp[execOp,T3]) (hK _ _ μ φ' a2 a3 (.op (by rw[a1])) fun id hid=>?_);have hid:=IT hid;subst hid;simp[Ak]
     ·cases h
    ·cases h
   rename_i ZI;have h:fresh draw site (.box cs) f m (fun f m ft=>k (.op site 0) f m ft)=some r:=h;have ZI:draw=true→(!true&&cs.any YZ)=false:=fun _=>rfl;obtain⟨f',m',hn,hk,Ak,AH,yW⟩:=cj h;refine⟨_,_,_,_,hk,.make AH (fun _ f2 m2 hf hs R' k'=>by simp only[cg];rw[hf x (by simp[Op.operands])];simp only[hc,fresh,hs,alk,apF,AI,OF]) fun w0 μ φ a w hR=>?_⟩;obtain⟨h1,h2⟩:=au hR x;obtain⟨x1,x2,x3⟩:=n3 _ _ _ _ h1;obtain⟨φ',a1,a2,a3⟩:=yW E.P E.az w0 μ φ w _ _ _ hR.toaA hR.kO (l6.box (T:=t) hR.toaA (c:=(a.eval x).cells) (by omega) x2 x3 (fun id hid=>h2 id (n2 id hid)));refine⟨.pointer (some ⟨w.heap.size,0,none⟩),w.alloc (.cells (a.eval x).cells t),μ,φ',by simp[execOp,T3],a2,a3,.op (by rw[a1]),fun id hid=>?_⟩;have hid:=IT hid;subst hid;simp[Ak]
  ·cases h
 case build t parts=>obtain⟨v,v1,v2,v3,v4⟩:=WD h;have WS:∀f2:Fr,(∀x∈(Op.build t parts).operands,bJ E f2 x=bJ E f x)→(parts.toList.map fun(x:Nat×Operand)=>(x.1,bJ E f2 x.2))=parts.toList.map fun(x:Nat×Operand)=>(x.1,bJ E f x.2):=fun f2 hf=>vY fun x hx=>hf x.2 (by simp only[Op.operands,ap5,aoi];exact⟨x,hx,rfl⟩);refine⟨_,_,_,_,v2,.read (fun f2 m2 hf _ R' k'=>by simp only[cg];rw[WS f2 hf];exact v1 _ _) fun w0 μ φ a w hR=>?_⟩;obtain⟨z,z1,z2⟩:=v4 μ φ w (parts.map fun(i,x)=>(i,a.eval x)) (by simp) (fun j i v hj=>by simp only[AT,alj]at hj;obtain⟨y,hy,he⟩:=hj;simp only[afu]at he;obtain⟨rfl,rfl⟩:=he;refine⟨a.eval y.2,?_,(au hR y.2).1⟩;rw[Array.getElem?_map,←aoS,hy];rfl);refine⟨z,by simp only[execOp,Sem.run_bind,z1,Result.andThen_ok,Sem.run_pure],z2,fun id hid=>?_⟩;have h5:=v3 id hid;rw[apL]at h5;obtain⟨u,hu,hh⟩:=cK.1 h5;obtain⟨y,hy,rfl⟩:=aoi.1 hu;exact(au hR y.2).2 id hh
 case load t x=>obtain⟨v,ft,v1,v2,v3,v4⟩:=Iw h;refine⟨_,_,_,_,v2,.read (fun f2 m2 hf hm R' k'=>by simp only[cg];rw[hf x (by simp[Op.operands])];exact v1 m2 hm _ _) fun w0 μ φ a w hR=>?_⟩;obtain⟨y,y1,y2,y3⟩:=v4 _ _ _ _ _ _ hR.toaA (au hR x).1;exact⟨y,by simp[execOp,y1],y2,y3⟩
 case store t x y=>
  obtain⟨m',ft,k1,k2,k3,k4⟩:=Wy h;refine⟨_,_,_,_,k1,⟨fun hd=>?_,fun h _=>by(simp[fH]at h),fun w0 μ φ a w K Q hR hK=>?_⟩⟩
  ·obtain⟨id,b,rfl,rfl,d3⟩:=k2 hd;refine⟨rfl,[(id,b)],rfl,by simp,fun f2 m2 hf hm R' k'=>?_⟩;simp only[cg];rw[hf x (by simp[Op.operands]),hf y (by simp[Op.operands])];exact d3 m2 (hm (true,id) (by simp)) _ _
  ·obtain⟨w',μ',s1,s2,s3⟩:=k4 _ _ _ _ _ _ _ hR.toaA (au hR x).1 (au hR y).1 (au hR y).2;exact A2 (by simp[execOp,s1]) (hK undef w' μ' φ s3 (hR.kO.oI s2 k3) .top (by simp))
 case nilCheck x=>
  have key:∀{v},bJ E f x=v→(∀(μ:Ro)(φ:Nat→aH)y,an E.P μ φ v y→(∃ad,y=.pointer (some ad))∨∃g xs ys,y=.func (.func g) xs ys)→k v f m []=some r→(∀(R':Type)(k':V→Fr→Mem→bB→Option R')(f2:Fr)(m2:Mem),bJ E f2 x=v→cg E true site {dst,op:=.nilCheck x,type,pos,after,guard} f2 m2 k'=k' v f2 m2 [])→∃v f' m' ft,k v f' m' ft=some r∧zd E draw site {dst,op:=.nilCheck x,type,pos,after,guard} f m v f' m' ft:=by
   intro v hv hp hk hn;refine⟨v,f,m,[],hk,.read (fun f2 m2 hf _ R' k'=>hn R' k' f2 m2 (by rw[hf x (by simp[Op.operands]),hv])) fun w0 μ φ a w hR=>?_⟩;obtain⟨h1,h2⟩:=au hR x;rw[hv]at h1 h2;refine⟨a.eval x,?_,h1,h2⟩;rcases hp μ φ _ h1 with⟨ad,e⟩|⟨g,xs,ys,e⟩
   ·simp only[execOp,e];rfl
   ·simp only[execOp,e];rfl
  split at h
  ·rename_i cs hx;exact key hx (fun μ φ y hy=>by cases hy with|pv hy=>cases hy;exact .inl ⟨_,rfl⟩) h fun R' k' f2 m2 e=>by simp only[cg,e]
  ·rename_i id off hx;exact key hx (fun μ φ y hy=>by cases hy;exact .inl ⟨_,rfl⟩) h fun R' k' f2 m2 e=>by simp only[cg,e]
  ·rename_i id i off hx;exact key hx (fun μ φ y hy=>by cases hy;exact .inl ⟨_,rfl⟩) h fun R' k' f2 m2 e=>by simp only[cg,e]
  ·rename_i id i off s j off2 hx;exact key hx (fun μ φ y hy=>by cases hy;exact .inl ⟨_,rfl⟩) h fun R' k' f2 m2 e=>by simp only[cg,e]
  ·rename_i g cs hx;exact key hx (fun μ φ y hy=>by cases hy;exact .inr (oF _ _)) h fun R' k' f2 m2 e=>by simp only[cg,e]
  ·rename_i g cs hx;exact key hx (fun μ φ y hy=>by cases hy with|pv hy=>cases hy;exact .inr (oF _ _)) h fun R' k' f2 m2 e=>by simp only[cg,e]
  ·cases h
 case binOp op t x y ty=>
  have yj:∀(f2:Fr)(m2:Mem)(R':Type)(k':V→Fr→Mem→bB→Option R')(d:Bool),bJ E f2 x=bJ E f x→bJ E f2 y=bJ E f y→cg E d site ⟨dst,.binOp op t x y ty,type,pos,after,guard⟩ f2 m2 k'=OJ E op t y (bJ E f x) (bJ E f y) fun p=>k' (.pv p) f2 m2 []:=by
   intro f2 m2 R' k' d e1 e2;simp only[cg];rw[e1,e2];split
   ·rename_i s es h1 h2;exact absurd h2 (hb op t x y ty s es rfl h1)
   ·rfl
  have h:cg E draw site ⟨dst,.binOp op t x y ty,type,pos,after,guard⟩ f m k=some r:=by simp only[cg];exact h
  rw[yj f m R k draw rfl rfl]at h;obtain⟨q,q1,q2,q3⟩:=ZE h;refine⟨_,_,_,_,q2,.read (fun f2 m2 hf hm R' k'=>by rw[yj f2 m2 R' k' true (hf x (by simp[Op.operands])) (hf y (by simp[Op.operands]))];exact q1 _ _) fun w0 μ φ a w hR=>?_⟩;obtain⟨z,z1,z2⟩:=q3 μ φ w x _ _ (fun hn=>by
   unfold Ig at hn;split at hn
   ·rfl
   ·cases hn) (au hR x).1 (au hR y).1
  exact⟨z,by simp only[wS]at z1;simp only[execOp,Sem.run_bind,Sem.run_pure]at z1⊢;rw[z1];rfl,.pv z2,by simp⟩
 case unOp op t x=>obtain⟨q,q1,q2,q3⟩:=afG h;refine⟨_,_,_,_,q2,.read (fun f2 m2 hf hm R' k'=>by simp only[cg];rw[hf x (by simp[Op.operands])];exact q1 _ _) fun w0 μ φ a w hR=>?_⟩;obtain⟨z,z1,z2⟩:=q3 E.P μ φ w _ (au hR x).1;exact⟨z,by simp[execOp,z1],.pv z2,by simp⟩
 case convert s d x=>obtain⟨q,ft,q1,q2,_,q3⟩:=WV h;refine⟨_,_,_,_,q2,.read (fun f2 m2 hf hm R' k'=>by simp only[cg];rw[hf x (by simp[Op.operands])];exact q1 m2 hm _ _) fun w0 μ φ a w hR=>?_⟩;obtain⟨z,z1,z2⟩:=q3 _ _ μ φ w _ hR.toaA (au hR x).1;exact⟨z,by simp[execOp,z1],.pv z2,by simp⟩
 case fieldAddr s x j=>obtain⟨v,v1,v2,v3,v4⟩:=CY h;refine⟨_,_,_,_,v2,.read (fun f2 m2 hf hm R' k'=>by simp only[cg];rw[hf x (by simp[Op.operands])];exact v1 _ _) fun w0 μ φ a w hR=>?_⟩;obtain⟨z,z1,z2⟩:=v4 μ φ w _ (au hR x).1;exact⟨z,by simp[execOp,z1],z2,fun id hid=>(au hR x).2 id (by rw[←v3];exact hid)⟩
 case field s x j=>obtain⟨v,v1,v2,v3,v4⟩:=Ws h;refine⟨_,_,_,_,v2,.read (fun f2 m2 hf hm R' k'=>by simp only[cg];rw[hf x (by simp[Op.operands])];exact v1 _ _) fun w0 μ φ a w hR=>?_⟩;obtain⟨z,z1,z2⟩:=v4 μ φ w _ (au hR x).1;exact⟨z,by simp[execOp,z1],z2,fun id hid=>(au hR x).2 id (v3 id hid)⟩
 case indexAddr t x ix=>obtain⟨v,ft,v1,v2,v3,v4,v5⟩:=KI h;refine⟨_,_,_,_,v2,.read (fun f2 m2 hf hm R' k'=>by simp only[cg];rw[hf x (by simp[Op.operands]),hf ix (by simp[Op.operands])];exact v1 m2 hm _ _) fun w0 μ φ a w hR=>?_⟩;obtain⟨z,z1,z2⟩:=v5 _ _ μ φ w _ _ hR.toaA (au hR x).1 (au hR ix).1;exact⟨z,by simp[execOp,z1],z2,fun id hid=>(au hR x).2 id (v4 id hid)⟩
 case index t x ix=>obtain⟨v,v1,v2,v3,v4⟩:=Wt h;refine⟨_,_,_,_,v2,.read (fun f2 m2 hf hm R' k'=>by simp only[cg];rw[hf x (by simp[Op.operands]),hf ix (by simp[Op.operands])];exact v1 _ _) fun w0 μ φ a w hR=>?_⟩;obtain⟨z,z1,z2⟩:=v4 μ φ w _ _ (au hR x).1 (au hR ix).1;exact⟨z,by simp[execOp,z1],z2,fun id hid=>(au hR x).2 id (v3 id hid)⟩
 case lookup t x ix ok=>
  split at h
  ·rename_i hn;have gg:ok=false:=by cases ok<;>simp at hn⊢
   subst gg;obtain⟨id,b1,b2,m',rfl,hk,hs,td,Rb,hid,RF,afR⟩:=Zw h;refine⟨_,_,_,_,hk,⟨fun hd=>⟨rfl,[(id,b1),(site,b2)],rfl,by simp,fun f2 m2 hf hm R' k'=>?_⟩,fun _ h=>absurd (h (true,id) (by simp)) (by simp),fun w0 μ φ a w K Q hR hK=>?_⟩⟩
   ·simp only[cg];rw[No hn,hf x (by simp[Op.operands]),hf ix (by simp[Op.operands])];exact RF m2 (hm (true,id) (by simp)) (by rw[hm (true,site) (by simp)];exact hs) _ _
   ·obtain⟨u,φ',u1,u2,u3,u4⟩:=afR _ _ _ _ _ _ _ _ _ hR.toaA hR.kO (au hR x).1 (au hR ix).1;exact gk (y:=u) (w':=w) (by simp[execOp,u1]) (hK u w μ φ' u2 u3 u4 fun j hj=>by have hj:=IT hj;subst hj;simp[vT])
  rename_i hn;obtain⟨v,ft,v1,v2,v3,v4,v5⟩:=RI h;refine⟨_,_,_,_,v2,.read (fun f2 m2 hf hm R' k'=>by simp only[cg];rw[QU hn,hf x (by simp[Op.operands]),hf ix (by simp[Op.operands])];exact v1 m2 hm _ _) fun w0 μ φ a w hR=>?_⟩;obtain⟨z,z1,z2⟩:=v5 _ _ μ φ w _ _ hR.toaA (au hR x).1 (au hR ix).1;exact⟨z,by simp[execOp,z1],z2,fun id hid=>by rw[v4]at hid;cases hid⟩
 case mapUpdate t x key val=>
  obtain⟨m',ft,k1,k2,k3,k4⟩:=C5 h;refine⟨_,_,_,_,k1,⟨fun hd=>?_,fun h _=>by(simp[fH]at h),fun w0 μ φ a w K Q hR hK=>?_⟩⟩
  ·obtain⟨id,b,rfl,rfl,d3⟩:=k2 hd;refine⟨rfl,[(id,b)],rfl,by simp,fun f2 m2 hf hm R' k'=>?_⟩;simp only[cg];rw[hf x (by simp[Op.operands]),hf key (by simp[Op.operands]),hf val (by simp[Op.operands])];exact d3 m2 (hm (true,id) (by simp)) _ _
  ·obtain⟨w',μ',s1,s2,s3⟩:=k4 _ _ _ _ _ _ _ _ hR.toaA (au hR x).1 (au hR key).1 (au hR val).1;exact A2 (by simp[execOp,s1]) (hK undef w' μ' φ s3 (hR.kO.oI s2 k3) .top (by simp))
 case insert t x key val=>
  obtain⟨m',ft,k1,k2,k3,k4⟩:=C5 h;refine⟨_,_,_,_,k1,⟨fun hd=>?_,fun h _=>by(simp[fH]at h),fun w0 μ φ a w K Q hR hK=>?_⟩⟩
  ·obtain⟨id,b,rfl,rfl,d3⟩:=k2 hd;refine⟨rfl,[(id,b)],rfl,by simp,fun f2 m2 hf hm R' k'=>?_⟩;simp only[cg];rw[hf x (by simp[Op.operands]),hf key (by simp[Op.operands]),hf val (by simp[Op.operands])];exact d3 m2 (hm (true,id) (by simp)) _ _
  ·obtain⟨w',μ',s1,s2,s3⟩:=k4 _ _ _ _ _ _ _ _ hR.toaA (au hR x).1 (au hR key).1 (au hR val).1;exact A2 (by simp[execOp,s1]) (hK undef w' μ' φ s3 (hR.kO.oI s2 k3) .top (by simp))
 case extract t i=>
  split at h
  ·rename_i vs hx;split at h
   ·rename_i v hv;refine⟨_,_,_,_,h,.read (fun f2 m2 hf hm R' k'=>by simp only[cg];rw[hf t (by simp[Op.operands]),hx];simp only[hv]) fun w0 μ φ a w hR=>?_⟩;obtain⟨h1,h2⟩:=au hR t;rw[hx]at h1 h2;generalize hy:a.eval t=y at h1;cases h1 with
    | @aI _ xs t1 t2=>
     have bF:i<xs.size:=by have:=(IN.1 hv).1;omega
     refine⟨xs[i],by simp[execOp,hy,Instr.extract,bF],t2 i v _ hv (Yh bF),fun id hid=>h2 id (by simp only[V.has];exact bR (an4 hv) hid)⟩
   ·cases h
  ·cases h
 case makeSlice t l c=>
  obtain⟨f',m',b,hd,hk,Ak,hs⟩:=KM h;refine⟨_,_,_,_,hk,.make (fun AH=>⟨(hd AH).1,(hd AH).2.1,(hd AH).2.2.1⟩) (fun AH f2 m2 hf hs' R' k'=>?_) fun w0 μ φ a w hR=>?_⟩
  ·simp only[cg];rw[hf l (by simp[Op.operands]),hf c (by simp[Op.operands])];exact(hd AH).2.2.2 f2 m2 hs' _ _
  ·obtain⟨w',y,φ',r1,r2,r3,r4⟩:=hs _ w0 μ φ w (bV E.fn.ntmps w0 a) _ _ hR.toaA hR.kO (au hR l).1 (au hR c).1;refine⟨y,w',μ,φ',by simp[execOp,r1],r2,r3,r4,fun id hid=>?_⟩;have hid:=IT hid;subst hid;exact Ak
 case makeMap t hint=>
  split at h
  ·rename_i hh;split at h
   ·rename_i kt et hu;split at h
    ·rename_i hk;obtain⟨ks,Zg⟩:=aop.1 hk;have RF:∀f2:Fr,(∀x∈(Op.makeMap t hint).operands,bJ E f2 x=bJ E f x)→MO E f2 hint=true:=fun f2 hf=>by
      cases hint with
      |none=>rfl
      |some x=>simp only[MO]at hh⊢;rw[hf x (by simp[Op.operands])];exact hh
     have mk:∀b:bL,(∀i off,b.rowAt i off=true→False)→(∀(μ:Ro)(φ':Nat→aH)(w:World),(φ' site).g=some w.heap.size→gM E.P μ φ' (w.alloc (.map #[] 0)) site b)→(∀id,b.names id=false)→(∀st,b≠.loop st)→fresh draw site b f m (fun f m ft=>k (.om site) f m ft)=some r→(∀(f2:Fr)(m2:Mem),(∀x∈(Op.makeMap t hint).operands,bJ E f2 x=bJ E f x)→m2 site=none→∀(R':Type)(k':V→Fr→Mem→bB→Option R'),cg E true site ⟨dst,.makeMap t hint,type,pos,after,guard⟩ f2 m2 k'=k' (.om site) f2 (aw m2 site b) [(true,site)])→∃v f' m' ft,k v f' m' ft=some r∧zd E draw site ⟨dst,.makeMap t hint,type,pos,after,guard⟩ f m v f' m' ft:=by
      intro b IG kF hnm hlp h Y7;obtain⟨f',m',hn,qo,Ak,AH,yW⟩:=cj h IG;refine⟨_,_,_,_,qo,.make AH (fun _ f2 m2 hf hs R' k'=>Y7 f2 m2 hf hs R' k') fun w0 μ φ a w hR=>?_⟩;obtain⟨φ',a1,a2,a3⟩:=yW E.P E.az w0 μ φ w _ _ (GU (some w.heap.size) 0 0 0) hR.toaA hR.kO (l6.alloc (o:=.map #[] 0) hR.toaA rfl (fun φ' hp _=>kF _ _ _ (by rw[hp])) (fun id hid=>by rw[hnm]at hid;cases hid) (fun st h=>absurd h (hlp st)));have xZ:(Instr.makeMap t (hint.map a.eval)).run E.P w=.ok (.map (some w.heap.size)) (w.alloc (.map #[] 0)):=by
       cases hint with
       |none=>rfl
       |some x=>
        have h1:=(au hR x).1;simp only[MO]at hh;split at hh
        ·rename_i q n hx;rw[hx]at h1;generalize hy:a.eval x=y at h1;cases h1 with
         |pv h1=>cases h1;simp[Instr.makeMap,hy,run_underlying hu,Go.asInt,asIntOf,newObj];rfl
        ·cases hh
      refine⟨.map (some w.heap.size),w.alloc (.map #[] 0),μ,φ',by simp only[execOp,Sem.run_bind,xZ];rfl,a2,a3,.om (by rw[a1]),fun id hid=>?_⟩;have hid:=IT hid;subst hid;simp[Ak]
     split at h
     ·rename_i afS;split at h
      ·rename_i e hue;exact mk (.fG kt e []) (fun i off h=>by cases off<;>simp[bL.rowAt]at h) (fun μ φ' w hg=>⟨w.heap.size,#[],0,ks,hg,ga w _,rfl,Zg,by simp,fun i e h=>by simp at h,by simp⟩) (fun _=>rfl) (fun st h=>by cases h) h fun f2 m2 hf hs R' k'=>by simp only[cg,RF f2 hf,hu,hk,fresh,hs,BY,afS,hue]
      ·cases h
     ·rename_i afS;exact mk (.map kt []) (fun i off h=>by simp[bL.rowAt]at h) (fun μ φ' w hg=>O4 Zg hg) (fun _=>rfl) (fun st h=>by cases h) h fun f2 m2 hf hs R' k'=>by simp only[cg,RF f2 hf,hu,hk,fresh,hs,BY];rw[QU afS]
    ·cases h
   ·cases h
  ·cases h
 case makeFunc fn first caps=>
  cases fn<;>simp only at h;case func g=>
   cases Rh:Nat.blt g Ic with
   |false=>rw[Rh]at h;cases h
   |true=>
   rw[Rh]at h;simp only[cond_true]at h;split at h
   ·rename_i ZJ;have hf0:first= #[]:=by simpa using ZJ
    subst hf0;refine⟨_,_,_,_,h,.read (fun f2 m2 hf hm R' k'=>?_) fun w0 μ φ a w hR=>⟨.func (.func g) #[] (caps.map a.eval),by simp[execOp,Instr.makeFunc],by rw[←uk Rh];exact .fn (mw hR).1 (mw hR).2,fun id hid=>ua hR (by simpa only[V.has]using hid)⟩⟩;simp only[cg,Rh,cond_true];rw[No (by simp),qY fun x hx=>hf x (by simpa[Op.operands]using hx)]
   ·rename_i ZJ;split at h
    ·rename_i hcp;have Rc:caps= #[]:=by simpa using hcp
     subst Rc;refine⟨_,_,_,_,h,.read (fun f2 m2 hf hm R' k'=>?_) fun w0 μ φ a w hR=>⟨.func (.func g) (first.map a.eval) #[],by simp[execOp,Instr.makeFunc],by rw[←ZH];exact .fn (mw hR).1 (mw hR).2,fun id hid=>ua hR (by simpa only[V.has]using hid)⟩⟩;simp only[cg,Rh,cond_true];rw[QU ZJ,No (by simp),qY fun x hx=>hf x (by simpa[Op.operands]using hx)]
    ·cases h
  all_goals (cases h)
 case slice t x lo hi mx=>
  obtain⟨v,ft,v1,v2,v3,v4,v6⟩:=Wu h;have hlo:∀f2:Fr,(∀y∈(Op.slice t x lo hi mx).operands,bJ E f2 y=bJ E f y)→lo.map (bJ E f2)=lo.map (bJ E f)∧hi.map (bJ E f2)=hi.map (bJ E f)∧mx.map (bJ E f2)=mx.map (bJ E f):=fun f2 hf=>by
   refine⟨?_,?_,?_⟩
   ·cases lo with
    |none=>rfl
    |some y=>simp only[IS];rw[hf y (by simp[Op.operands])]
   ·cases hi with
    |none=>rfl
    |some y=>simp only[IS];rw[hf y (by simp[Op.operands])]
   ·cases mx with
    |none=>rfl
    |some y=>simp only[IS];rw[hf y (by simp[Op.operands])]
  refine⟨_,_,_,_,v2,.read (fun f2 m2 hf hm R' k'=>by simp only[cg];rw[hf x (by simp[Op.operands]),(hlo f2 hf).1,(hlo f2 hf).2.1,(hlo f2 hf).2.2];exact v1 m2 hm _ _) fun w0 μ φ a w hR=>?_⟩;obtain⟨z,z1,z2⟩:=v6 _ _ μ φ w (a.eval x) (lo.map a.eval) (hi.map a.eval) (mx.map a.eval) hR.toaA (au hR x).1 (fun v hv=>by
   obtain⟨y,rfl,rfl⟩:=alj.1 hv;exact⟨_,rfl,(au hR y).1⟩) (fun hv=>by cases lo<;>simp at hv⊢) (fun v hv=>by
   obtain⟨y,rfl,rfl⟩:=alj.1 hv;exact⟨_,rfl,(au hR y).1⟩) (fun hv=>by cases hi<;>simp at hv⊢) (fun v hv=>by
   obtain⟨y,rfl,rfl⟩:=alj.1 hv;exact⟨_,rfl,(au hR y).1⟩) (fun hv=>by cases mx<;>simp at hv⊢)
  exact⟨z,by simp[execOp,z1],z2,fun id hid=>(au hR x).2 id (v4 id hid)⟩
 case buildSlice t len parts=>
  split at h
  ·rename_i e hu;split at h
   ·rename_i YE;split at h
    ·rename_i cs ow;split at h
     ·rename_i hc;obtain⟨hlen,yj,FU,T6⟩:=hc;obtain⟨zc,YG⟩:=aop.1 T6;obtain⟨iz,zv,z1,z2,z3,_⟩:=du YG;obtain⟨p1,p2,p3⟩:=LH ow;obtain⟨f',m',hn,hk,Ak,AH,yW⟩:=cj h;refine⟨_,_,_,_,hk,.make (b:=.box cs) AH (fun _ f2 m2 hf hs R' k'=>by have WS:(parts.toList.map fun(x:Nat×Operand)=>(x.1,bJ E f2 x.2))=parts.toList.map fun(x:Nat×Operand)=>(x.1,bJ E f x.2):=vY fun x hx=>hf x.2 (by simp only[Op.operands,ap5,aoi];exact⟨x,hx,rfl⟩);simp only[cg,hu,YE,BY];rw[WS];simp only[ow];rw[No ⟨hlen,yj,FU,T6⟩];simp only[fresh,hs]) fun w0 μ φ a w hR=>?_⟩;have I9:parts.toList.length=len:=by rw[←hlen];simp
      have qn:cs.length=len:=by rw[p1];simp[←I9]
      have Pc:∃c0:Array Value,c0.size=0+parts.toList.length∧∀cells,Instr.fill (fun i=>some (i*1,1)) c0 (parts.map fun(i,x)=>(i,a.eval x)).toList=some cells→(Instr.buildSlice t len (parts.map fun(i,x)=>(i,a.eval x))).run E.P w=.ok (.slice (some ⟨w.heap.size,0,none⟩) len len) (w.alloc (.cells cells e)):=by
       by_cases h0:len*aS E.P e=0
       ·have OA:len=0:=by rw[yj]at h0;omega
        refine⟨#[],by simp[I9,OA],fun cells hf=>?_⟩;subst OA;have Oy:parts= #[]:=by apply apI;simpa using aof I9
        subst Oy;have hf':cells= #[]:=by simpa[Instr.fill]using hf.symm
        subst hf';simp[Instr.buildSlice,run_underlying hu,sizeOf,typeInfo,z1,newRow,Instr.fill,Array.range_zero']
       ·refine⟨(Array.range (len*aS E.P e)).map (zv.cells[·%zv.cells.size]!),by simp[I9,yj],fun cells hf=>?_⟩;exact run_buildSlice w t e len _ cells iz zv hu z1 z2 (by rw[z3,yj];omega) (by rw[z3];exact h0) (by rw[z3];simp only[yj]at hf⊢;exact hf)
      obtain⟨c0,c1,c2⟩:=Pc;obtain⟨c',d1,d2,d3,d4⟩:=p3 E.P μ φ (parts.map fun(i,x)=>(i,a.eval x)).toList c0 (by simp) (fun j i v hj=>by simp only[AT,alj]at hj;obtain⟨y,hy,he⟩:=hj;simp only[afu]at he;obtain⟨rfl,rfl⟩:=he;exact⟨a.eval y.2,by simp[hy],(au hR y.2).1⟩) (by rw[c1];simp);have ou:c'.size=cs.length:=by rw[d2,c1,qn];omega
      have ey:∀(i:Nat)u y,cs[i]?=some u→c'[i]?=some y→an E.P μ φ u y∧y.oneCell'=true:=fun i u y hu hy=>by obtain⟨z,e1,e2,e3⟩:=d4 i u hu;rw[apa,hy]at e1;cases e1;exact⟨e2,e3⟩
      obtain⟨φ',a1,a2,a3⟩:=yW E.P E.az w0 μ φ w (w.alloc (.cells c' e)) _ (GU (some w.heap.size) len cs.length 1) hR.toaA hR.kO (l6.alloc (o:=.cells c' e) hR.toaA rfl (fun φ' hp T4=>⟨w.heap.size,c',e,by rw[hp],ga w _,ou,fun i u y hu hy=>(ey i u y hu hy).1.mono (fun _ _ h=>h) fun id hid=>T4 id (bR (an4 hu) hid),fun i y hy=>by
       have bF:=(T0.1 hy).1;have hu:cs[i]?=some (cs[i]'(by omega)):=ta (by omega);exact(ey i _ y hu hy).2,by rw[hp]⟩) (fun id hid=>by
       have h5:=p2 id hid;rw[apL]at h5;obtain⟨u,hu,hh⟩:=cK.1 h5;obtain⟨y,hy,rfl⟩:=aoi.1 hu;exact(au hR y.2).2 id hh))
      refine⟨.slice (some ⟨w.heap.size,0,none⟩) len len,w.alloc (.cells c' e),μ,φ',by simp only[execOp,Sem.run_bind,c2 c' d1,Result.andThen_ok,Sem.run_pure],a2,a3,?_,fun id hid=>?_⟩
      ·have:=an.os (P:=E.P) (μ:=μ) (φ:=φ') (id:=site) (g:=w.heap.size) (by rw[a1]);rw[a1,qn]at this;exact this
      ·have hid:=IT hid;subst hid;simp[Ak]
     ·cases h
    ·cases h
   rename_i ami;have hnf:TP E e=false:=by simpa using ami
   split at h
   ·rename_i hfz;split at h
    ·rename_i es m1 Pa;split at h
     ·rename_i hc;obtain⟨hlen,eY,FU,T6⟩:=hc;obtain⟨zc,YG⟩:=aop.1 T6;obtain⟨iz,zv,z1,z2,z3,_⟩:=du YG;have hpm:=(uC Pa).2 m;obtain⟨p1,p2,p3⟩:=wY hpm;refine⟨_,_,_,_,h,⟨fun hd=>⟨rfl,[],rfl,by simp,fun f2 m2 hf _ R' k'=>?_⟩,fun _ _=>⟨rfl,rfl⟩,fun w0 μ φ a w K Q hR hK=>?_⟩⟩
      ·have WS:(parts.toList.map fun(x:Nat×Operand)=>(x.1,bJ E f2 x.2))=parts.toList.map fun(x:Nat×Operand)=>(x.1,bJ E f x.2):=vY fun x hx=>hf x.2 (by simp only[Op.operands,ap5,aoi];exact⟨x,hx,rfl⟩);simp only[cg,hu,hnf,AI,OF,hfz,BY];rw[WS];simp only[Pa];rw[No ⟨hlen,eY,FU,T6⟩];rfl
      have I9:parts.toList.length=len:=by rw[←hlen,p2];simp
      have Pc:∃c0:Array Value,c0.size=(0+parts.toList.length)*aS E.P e∧∀cells,Instr.fill (fun i=>some (i*aS E.P e,aS E.P e)) c0 (parts.map fun(i,x)=>(i,a.eval x)).toList=some cells→(Instr.buildSlice t len (parts.map fun(i,x)=>(i,a.eval x))).run E.P w=.ok (.slice (some ⟨w.heap.size,0,none⟩) len len) (w.alloc (.cells cells e)):=by
       by_cases h0:len*aS E.P e=0
       ·have OA:len=0:=by rcases Nat.mul_eq_zero.1 h0 with h|h<;>omega
        refine⟨#[],by simp[I9,OA],fun cells hf=>?_⟩;subst OA;have Oy:parts= #[]:=by apply apI;simpa using aof I9
        subst Oy;have hf':cells= #[]:=by simpa[Instr.fill]using hf.symm
        subst hf';simp[Instr.buildSlice,run_underlying hu,sizeOf,typeInfo,z1,newRow,Instr.fill,Array.range_zero']
       ·refine⟨(Array.range (len*aS E.P e)).map (zv.cells[·%zv.cells.size]!),by simp[I9],fun cells hf=>?_⟩;exact run_buildSlice w t e len _ cells iz zv hu z1 z2 (by rw[z3];omega) (by rw[z3];exact h0) (by rw[z3];exact hf)
      obtain⟨c0,c1,c2⟩:=Pc;obtain⟨μ',c',d1,d2,d3,d4,d5⟩:=p3 E.P E.az w0 μ φ w (parts.map fun(i,x)=>(i,a.eval x)).toList [] c0 hR.toaA (by simp) (fun j i v hj=>by simp only[AT,alj]at hj;obtain⟨y,hy,he⟩:=hj;simp only[afu]at he;obtain⟨rfl,rfl⟩:=he;exact⟨a.eval y.2,by simp[hy],(au hR y.2).1⟩) rfl (by simpa using c1) (by simpa using Cells.nil);simp only[apA]at d5;have hb:lh w.heap.size w (w.alloc (.cells c' e)):=(lh.refl _ w).alloc (aoa _) _;have hA:aL E.P μ' (fun _=>GU (some w.heap.size) len es.length (aS E.P e)) (w.alloc (.cells c' e)) 0 (aS E.P e) e es:=aL.rL (g:=w.heap.size) rfl rfl eY (by simp only[maxLen,GU];have:len*1≤len*aS E.P e:=apy _ eY;omega) (ga w _) (by simp only[GU];rw[d4];simp[←I9]) (by simp only[GU];omega) (by have h1:=d5.len;rw[aoF (by rw[h1];exact aoa _)];exact d5);have uz:=lr d2 (w.alloc (.cells c' e));have hV:=hA.MX (g:=w.heap.size) rfl (lo:=0) (len:=len) (by omega) (cap:=len) (by simp only[GU];omega) (aoa _) uz (by simp[cu]);rw[arb,aqd,aoF (by omega)]at hV;exact gk (by simp only[execOp,Sem.run_bind,c2 c' d3,Result.andThen_ok,Sem.run_pure]) (hK _ _ _ φ (d2.called hb) ((hR.kO.oI d1 p1).oI uz (.refl _)) (.pv hV) (fun id hid=>by cases hid))
     ·cases h
    ·cases h
   rename_i amj;split at h
   ·rename_i es m1 Pa;split at h
    ·rename_i hc;obtain⟨hlen,eY,FU,T6⟩:=hc;obtain⟨zc,YG⟩:=aop.1 T6;obtain⟨iz,zv,z1,z2,z3,_⟩:=du YG;have hmm:∃mm,mm=(if draw then m else m1)∧fF m (aS E.P e) (aG E.P e) 0 (parts.toList.map fun(i,x)=>(i,bJ E f x))=some (es,mm):=by
      cases draw with
      |true=>exact⟨m,rfl,(uC Pa).2 m⟩
      |false=>exact⟨m1,rfl,Pa⟩
     obtain⟨mm,hme,hpm⟩:=hmm;rw[←hme]at h;obtain⟨p1,p2,p3⟩:=wY hpm;obtain⟨f',m',hn,hk,Ak,AH,yW⟩:=cj h;refine⟨_,_,_,_,hk,.make (b:=.arr (aS E.P e) e es) (fun hd=>by
      have:=AH hd;rw[hd]at hme;simp only[BY]at hme;rw[hme]at this;exact this) (fun hd f2 m2 hf hs R' k'=>by
      subst hd;have WS:(parts.toList.map fun(x:Nat×Operand)=>(x.1,bJ E f2 x.2))=parts.toList.map fun(x:Nat×Operand)=>(x.1,bJ E f x.2):=vY fun x hx=>hf x.2 (by simp only[Op.operands,ap5,aoi];exact⟨x,hx,rfl⟩);simp only[cg,hu,hnf,AI,OF,amj,BY];rw[WS];simp only[BY]at Pa;simp only[Pa];rw[No ⟨hlen,eY,FU,T6⟩];simp only[fresh,hs]) fun w0 μ φ a w hR=>?_⟩
     have I9:parts.toList.length=len:=by rw[←hlen,p2];simp
     have Pc:∃c0:Array Value,c0.size=(0+parts.toList.length)*aS E.P e∧∀cells,Instr.fill (fun i=>some (i*aS E.P e,aS E.P e)) c0 (parts.map fun(i,x)=>(i,a.eval x)).toList=some cells→(Instr.buildSlice t len (parts.map fun(i,x)=>(i,a.eval x))).run E.P w=.ok (.slice (some ⟨w.heap.size,0,none⟩) len len) (w.alloc (.cells cells e)):=by
      by_cases h0:len*aS E.P e=0
      ·have OA:len=0:=by rcases Nat.mul_eq_zero.1 h0 with h|h<;>omega
       refine⟨#[],by simp[I9,OA],fun cells hf=>?_⟩;subst OA;have Oy:parts= #[]:=by apply apI;simpa using aof I9
       subst Oy;have hf':cells= #[]:=by simpa[Instr.fill]using hf.symm
       subst hf';simp[Instr.buildSlice,run_underlying hu,sizeOf,typeInfo,z1,newRow,Instr.fill,Array.range_zero']
      ·refine⟨(Array.range (len*aS E.P e)).map (zv.cells[·%zv.cells.size]!),by simp[I9],fun cells hf=>?_⟩;exact run_buildSlice w t e len _ cells iz zv hu z1 z2 (by rw[z3];omega) (by rw[z3];exact h0) (by rw[z3];exact hf)
     obtain⟨c0,c1,c2⟩:=Pc;obtain⟨μ',c',d1,d2,d3,d4,d5⟩:=p3 E.P E.az w0 μ φ w (parts.map fun(i,x)=>(i,a.eval x)).toList [] c0 hR.toaA (by simp) (fun j i v hj=>by simp only[AT,alj]at hj;obtain⟨y,hy,he⟩:=hj;simp only[afu]at he;obtain⟨rfl,rfl⟩:=he;exact⟨a.eval y.2,by simp[hy],(au hR y.2).1⟩) rfl (by simpa using c1) (by simpa using Cells.nil);simp only[apA]at d5;obtain⟨φ',a1,a2,a3⟩:=yW E.P E.az w0 μ' φ w _ _ (GU (some w.heap.size) len es.length (aS E.P e)) d2 (hR.kO.oI d1 p1) (l6.alloc (o:=.cells c' e) d2 rfl (fun φ' hp _=>aL.rL (g:=w.heap.size) (by rw[hp]) rfl eY (by rw[hp];simp only[maxLen];have:len*1≤len*aS E.P e:=apy _ eY;omega) (ga w _) (by rw[hp,d4];simp[←I9]) (by rw[hp];simp[hlen]) (by have h1:=d5.len;rw[aoF (by rw[h1];exact aoa _)];exact d5)) (by simp[bL.names]));refine⟨.slice (some ⟨w.heap.size,0,none⟩) len len,w.alloc (.cells c' e),μ',φ',by simp only[execOp,Sem.run_bind,c2 c' d3,Result.andThen_ok,Sem.run_pure],a2,a3,?_,fun id hid=>?_⟩
     ·have:=an.os (P:=E.P) (μ:=μ') (φ:=φ') (id:=site) (g:=w.heap.size) (by rw[a1]);rw[a1,hlen]at this;exact this
     ·have hid:=IT hid;subst hid;simp[Ak]
    ·cases h
   ·cases h
  ·cases h
 case call c=>exact absurd rfl (hc c)
 case range t x=>cases hit
 case next x s=>cases hit
 case entry x=>cases hit
 all_goals (cases h)
variable{dst:Option Nat}{after:Array Edge}{guard:Option (Nat×Bool)}
theorem ZK(hE:jM E){callee:Callee}{argTypes:Array TypeId}{type:TypeId}{pos:String}(h:cg E draw site ⟨dst,.call ⟨callee,args,argTypes⟩,type,pos,after,guard⟩ f m k=some r):(∃v f' m' ft,k v f' m' ft=some r∧zd E draw site ⟨dst,.call ⟨callee,args,argTypes⟩,type,pos,after,guard⟩ f m v f' m' ft)∨(draw=false∧Jc E ⟨dst,.call ⟨callee,args,argTypes⟩,type,pos,after,guard⟩ f m k r):=by
 unfold cg at h;simp only at h;have uA:∀f2:Fr,(∀x∈(Op.call ⟨callee,args,argTypes⟩).operands,bJ E f2 x=bJ E f x)→args.toList.map (bJ E f2)=args.toList.map (bJ E f):=fun f2 hf=>qY fun x hx=>hf x (by simp_all[Op.operands,Call.operands]);have kF:=fun{w0 μ φ a w}(hR:Rel E.P E.az E.fn.ntmps w0 μ φ f m a w)=>mw hR (args:=args);have known:∀(g:FuncId)(vs:List V),Ag E draw site g vs f m k=some r→(∀w0 μ φ a w,Rel E.P E.az E.fn.ntmps w0 μ φ f m a w→∃xs,(execOp a.eval ⟨dst,.call ⟨callee,args,argTypes⟩,type,pos,after,guard⟩).run E.P w=(callFunc g xs).run E.P w∧vs.length=xs.size∧(∀(i:Nat)v x,vs[i]?=some v→xs[i]?=some x→an E.P μ φ v x)∧∀id,cp id vs=true→(m id).isSome=true)→(∀(f2:Fr)(m2:Mem),(∀x∈(Op.call ⟨callee,args,argTypes⟩).operands,bJ E f2 x=bJ E f x)→∀(R':Type)(k':V→Fr→Mem→bB→Option R'),cg E true site ⟨dst,.call ⟨callee,args,argTypes⟩,type,pos,after,guard⟩ f2 m2 k'=Ag E true site g vs f2 m2 k')→(∃v f' m' ft,k v f' m' ft=some r∧zd E draw site ⟨dst,.call ⟨callee,args,argTypes⟩,type,pos,after,guard⟩ f m v f' m' ft)∨(draw=false∧Jc E ⟨dst,.call ⟨callee,args,argTypes⟩,type,pos,after,guard⟩ f m k r):=by
  intro g vs hx xZ RF;obtain h0|⟨AH,⟨fn,c,f1,f2,f3⟩,k5⟩:=Zt hE hx;rotate_left
  ·refine .inr ⟨AH,And.intro (fun c x y h=>by cases h) fun rd w0 μ φ a w K Q _ hR hK=>FV (fun c h=>by cases h) ?_⟩;obtain⟨xs,x1,x2,x3,x4⟩:=xZ w0 μ φ a w hR;unfold Oper.wp;rw[x1,Ct f1 f3 f2];rw[Oper.upon_enter];refine(k5 w0 μ φ _ w xs hR.toaA hR.kO x2 x3 x4).mono ?_;grind
  obtain⟨v,f',m',ft,k1,k2,ks,⟨fn,c,f1,f2,f3⟩,k5⟩:=h0;refine .inl ⟨v,f',m',ft,k1,⟨fun hd=>?_,fun _ h=>ks h,fun w0 μ φ a w K Q hR hK=>?_⟩⟩
  ·obtain⟨d1,wr,d2,d3,d4⟩:=k2 hd;exact⟨d1,wr.toList,by rw[d2];cases wr<;>rfl,fun x hx=>(by grind),fun f2 m2 hf hm R' k'=>by rw[RF f2 m2 hf,d4 f2 m2 hm R' k'];cases wr<;>rfl⟩
  ·obtain⟨xs,x1,x2,x3,x4⟩:=xZ w0 μ φ a w hR;unfold Oper.wp;rw[x1,Ct f1 f3 f2];rw[Oper.upon_enter];refine(k5 w0 μ φ _ w xs hR.toaA hR.kO x2 x3 x4).mono ?_;grind
 have read:∀{v:V}{ft:bB},k v f m ft=some r→(∀(f2:Fr)(m2:Mem),(∀x∈(Op.call ⟨callee,args,argTypes⟩).operands,bJ E f2 x=bJ E f x)→(∀x∈ft,m2 x.2=m x.2)→∀(R':Type)(k':V→Fr→Mem→bB→Option R'),cg E true site ⟨dst,.call ⟨callee,args,argTypes⟩,type,pos,after,guard⟩ f2 m2 k'=k' v f2 m2 ft)→(∀w0 μ φ a w,Rel E.P E.az E.fn.ntmps w0 μ φ f m a w→∃y,(execOp a.eval ⟨dst,.call ⟨callee,args,argTypes⟩,type,pos,after,guard⟩).run E.P w=.ok (.value y) w∧an E.P μ φ v y∧∀id,v.has id=true→(m id).isSome=true)→(∃v f' m' ft,k v f' m' ft=some r∧zd E draw site ⟨dst,.call ⟨callee,args,argTypes⟩,type,pos,after,guard⟩ f m v f' m' ft)∨(draw=false∧Jc E ⟨dst,.call ⟨callee,args,argTypes⟩,type,pos,after,guard⟩ f m k r):=fun hk hn hs=>.inl ⟨_,_,_,_,hk,.read hn hs⟩;have one:∀{l:List Operand}{u:V},l.map (bJ E f)=[u]→∃x,l=[x]∧u=bJ E f x:=by simp_all
 have two:∀{l:List Operand}{u v:V},l.map (bJ E f)=[u,v]→∃x y,l=[x,y]∧u=bJ E f x∧v=bJ E f y:=by
  intro l u v h;match l with
  |[]=>simp at h
  |[x]=>simp at h
  |[x,y]=>grind
  |_::_::_::_=>simp at h
 have four:∀{l:List Operand}{u1 u2 u3 u4:V},l.map (bJ E f)=[u1,u2,u3,u4]→∃x y z t,l=[x,y,z,t]∧u1=bJ E f x∧u2=bJ E f y∧u3=bJ E f z∧u4=bJ E f t:=by
  intro l u1 u2 u3 u4 h;match l with
  |[]=>simp at h
  |[x]=>simp at h
  |[x,y]=>simp at h
  |[x,y,z]=>simp at h
  |[x,y,z,t]=>grind
  |_::_::_::_::_::_=>simp at h
 have afT:∀{A:Type}{xs:Array A}{x:A},xs.toList=[x]→xs= #[x]:=fun h=>apI (by omega);have ZL:∀{A:Type}{xs:Array A}{x y:A},xs.toList=[x,y]→xs= #[x,y]:=fun h=>apI (by omega);split at h
 ·rename_i u hu;obtain⟨x,hx,rfl⟩:=one hu;split at h
  ·rename_i t ht;obtain⟨v,ft,v1,v2,v3,v4,v5⟩:=adv h;refine read v2 (fun f2 m2 hf hm R' k'=>?_) (fun w0 μ φ a w hR=>?_)
   ·grind [cg]
   ·have e1:=afT hx;have e2:=afT ht;subst e1;subst e2;obtain⟨z,z1,z2⟩:=v5 _ _ μ φ w _ type hR.toaA (au hR x).1 (au hR x).2;exact⟨z,by simp[execOp,resolve,invoke,builtin,z1],z2,fun id hid=>by grind⟩
  ·cases h
 ·rename_i u u' hu;obtain⟨x,y,hx,rfl,rfl⟩:=two hu;split at h
  ·rename_i t t' ht;obtain⟨hd,ht',place,f',m',k1,k2,k3⟩:=RE h;subst ht';refine .inl ⟨_,_,_,_,k1,⟨fun hd'=>(by grind),fun h _=>by(simp[fH]at h),fun w0 μ φ a w K Q hR hK=>?_⟩⟩;have e1:=ZL hx;have e2:=ZL ht;subst e1;subst e2;obtain⟨w',z,φ',z1,z2,z3,z4⟩:=k3 _ w0 μ φ w (bV E.fn.ntmps w0 a) _ _ type hR.toaA hR.kO (au hR x).1 (au hR y).1;exact gk (y:=z) (w':=w') (by simp[execOp,resolve,invoke,builtin,z1]) (hK z w' μ φ' z2 z3 z4 fun id hid=>by have hid:=IT hid;subst hid;omega)
  ·cases h
 ·rename_i u u' hu;obtain⟨x,y,hx,rfl,rfl⟩:=two hu;split at h
  ·rename_i t ts ht;obtain⟨n,id,b,ft,c1,c2,c3⟩:=Zp h;refine .inl ⟨_,_,_,_,c2,⟨fun hd=>⟨rfl,[(id,b)],rfl,by simp,fun f2 m2 hf hm R' k'=>?_⟩,fun h _=>by(simp[fH]at h),fun w0 μ φ a w K Q hR hK=>?_⟩⟩
   ·simp only[cg,uA f2 hf,hu,ht];exact c1 m2 hm _ _
   ·have e1:=ZL hx;subst e1;have e2:argTypes=(t::ts).toArray:=apI (by omega);subst e2;obtain⟨w',φ',z1,z2,z3,z4⟩:=c3 _ w0 μ φ w (bV E.fn.ntmps w0 a) f _ _ ts type hR.toaA hR.kO (au hR x).1 (au hR y).1;exact gk (y:=.int .i64 n) (w':=w') (by simp only[execOp,resolve,invoke,builtin,Sem.run_bind,Sem.run_pure,Result.andThen_ok];rw[show(#[x,y].map a.eval)= #[a.eval x,a.eval y] by simp,z1];rfl) (hK _ w' μ φ' z2 z3 (.pv (.int z4)) (by simp))
  ·cases h
 ·rename_i u hu;obtain⟨x,hx,rfl⟩:=one hu;split at h
  ·rename_i t ts ht;obtain⟨id,b,c1,c2,c3⟩:=WC h;refine .inl ⟨_,_,_,_,c2,⟨fun hd=>⟨rfl,[(id,b)],rfl,by simp,fun f2 m2 hf hm R' k'=>?_⟩,fun h _=>by(simp[fH]at h),fun w0 μ φ a w K Q hR hK=>?_⟩⟩
   ·simp only[cg,uA f2 hf,hu,ht];exact c1 m2 (hm (true,id) (by simp)) _ _
   ·have e1:=afT hx;subst e1;have e2:argTypes=(t::ts).toArray:=apI (by omega);subst e2;obtain⟨w',z1,z2,z3⟩:=c3 _ w0 μ φ w (bV E.fn.ntmps w0 a) f _ ts type hR.toaA hR.kO (au hR x).1;exact gk (y:=.tuple #[]) (w':=w') (by simp only[execOp,resolve,invoke,builtin,Sem.run_bind,Sem.run_pure,Result.andThen_ok];rw[show(#[x].map a.eval)= #[a.eval x] by simp,z1];rfl) (hK _ w' μ φ z2 z3 .top (by simp))
  ·cases h
 ·rename_i u u' hu;obtain⟨x,y,hx,rfl,rfl⟩:=two hu;obtain⟨q,q1,q2,q3⟩:=Zi h;refine read q2 (fun f2 m2 hf hm R' k'=>?_) (fun w0 μ φ a w hR=>?_)
  ·grind [cg]
  ·have e1:=ZL hx;subst e1;obtain⟨z,z1,z2⟩:=q3 E.P μ φ w _ _ (au hR x).1 (au hR y).1;exact⟨z,by simp[execOp,resolve,invoke,builtin,Builtin.min_,z1],.pv z2,by simp⟩
 ·rename_i u u' hu;obtain⟨x,y,hx,rfl,rfl⟩:=two hu;obtain⟨q,q1,q2,q3⟩:=Eu h;refine read q2 (fun f2 m2 hf hm R' k'=>?_) (fun w0 μ φ a w hR=>?_)
  ·grind [cg]
  ·have e1:=ZL hx;subst e1;obtain⟨z,z1,z2⟩:=q3 E.P μ φ w _ _ (au hR x).1 (au hR y).1;exact⟨z,by simp[execOp,resolve,invoke,builtin,Builtin.max_,z1],.pv z2,by simp⟩
 ·rename_i u1 u2 u3 u4 hu;obtain⟨x,y,z,t,hx,rfl,rfl,rfl,rfl⟩:=four hu;obtain⟨q,q1,q2,q3⟩:=Zj h;refine read q2 (fun f2 m2 hf hm R' k'=>?_) (fun w0 μ φ a w hR=>?_)
  ·grind [cg]
  ·have e1:args= #[x,y,z,t]:=apI (by omega);subst e1;obtain⟨v1,v2,v3,z1,z2,z3,z4⟩:=q3 E.P μ φ w _ _ _ _ (au hR x).1 (au hR y).1 (au hR z).1 (au hR t).1;exact⟨v3,by simp[execOp,resolve,invoke,builtin,Builtin.max_,z1,z2,z3],.pv z4,by simp⟩
 ·rename_i _ g;refine known g _ h (fun w0 μ φ a w hR=>⟨args.map a.eval,?_,(mw hR).1,(mw hR).2,fun id hid=>ua hR hid⟩) (fun f2 m2 hf R' k'=>?_)
  ·simp[execOp,resolve,Deferred.ofValue,invoke,Act.eval]
  ·simp only[cg,uA f2 hf]
 ·rename_i _ tm;split at h
  ·rename_i g caps tB;refine known (Ai g) _ h (fun w0 μ φ a w hR=>?_) (fun f2 m2 hf R' k'=>?_)
   ·have h1:=(au hR (.tmp tm)).1;rw[tB]at h1;have hlc:=(au hR (.tmp tm)).2;rw[tB]at hlc;generalize hy:a.eval (.tmp tm)=y at h1;cases h1 with
    | @fn _ _ xs c1 c2=>
     obtain⟨o1,o2⟩:=mw hR (args:=args);obtain⟨b1,b2⟩:=Ue (g:=g) (by simp) o2 c1 c2;refine⟨EB g xs (args.map a.eval),?_,b1,b2,fun id hid=>?_⟩
     ·cases e:Nat.blt g Ic with
      |true=>rw[uk e]at hy;simp[execOp,resolve,Deferred.ofValue,invoke,hy,Ai,EB,e]
      |false=>rw[OX e]at hy;simp[execOp,resolve,Deferred.ofValue,invoke,hy,Ai,EB,e]
     ·obtain⟨v,hv,hh⟩:=cK.1 hid;rcases ZG hv with hv|hv
      ·exact ua hR (cK.2 ⟨v,hv,hh⟩)
      ·exact hlc id (by simp only[V.has];exact cK.2 ⟨v,hv,hh⟩)
   ·have:=hf (.tmp tm) (by simp[Op.operands,Call.operands]);simp only[cg,uA f2 hf,this,tB]
  ·rename_i g caps tB;refine known (Ai g) _ h (fun w0 μ φ a w hR=>?_) (fun f2 m2 hf R' k'=>?_)
   ·have h1:=(au hR (.tmp tm)).1;rw[tB]at h1;generalize hy:a.eval (.tmp tm)=y at h1;cases h1 with
    |pv h1=>cases h1 with
     | @fn _ _ xs c1 c2=>
      obtain⟨o1,o2⟩:=mw hR (args:=args);obtain⟨b1,b2⟩:=Ue (g:=g) (caps:=caps.map .pv) (xs:=xs) (by simp) o2 (by simpa using c1) (fun i v x hv hx=>by simp only[AT,alj]at hv;obtain⟨q,hq,rfl⟩:=hv;exact .pv (c2 _ q x hq hx));refine⟨EB g xs (args.map a.eval),?_,b1,b2,fun id hid=>?_⟩
      ·cases e:Nat.blt g Ic with
       |true=>rw[uk e]at hy;simp[execOp,resolve,Deferred.ofValue,invoke,hy,Ai,EB,e]
       |false=>rw[OX e]at hy;simp[execOp,resolve,Deferred.ofValue,invoke,hy,Ai,EB,e]
      ·obtain⟨v,hv,hh⟩:=cK.1 hid;rcases ZG hv with hv|hv
       ·exact ua hR (cK.2 ⟨v,hv,hh⟩)
       ·obtain⟨q,_,rfl⟩:=aoi.1 hv;cases hh
   ·have:=hf (.tmp tm) (by simp[Op.operands,Call.operands]);simp only[cg,uA f2 hf,this,tB]
  ·rename_i id tB;split at h
   ·cases h
   ·rename_i AH;refine .inr ⟨by simpa using AH,And.intro (fun c x y h=>by cases h) fun rd w0 μ φ a w K Q hY hR hK=>?_⟩;have h1:=(au hR (.tmp tm)).1;rw[tB]at h1;generalize hy:a.eval (.tmp tm)=y at h1;cases h1 with
    | @yl _ g hg=>
     obtain⟨o1,o2⟩:=mw hR (args:=args);obtain⟨fn,tmps,assign,body,y1,y2⟩:=hY w0.hid _ _ _ _ _ _ _ _ h μ φ (bV E.fn.ntmps w0 a) w (args.map a.eval) hR.toaA hR.kO (fun t ht=>by unfold bV;rw[QU (by omega)]) o1 o2 (fun id hid=>ua hR hid) g hg;refine⟨fun _ _=>trivial,?_⟩;rw[Oper.semAt_eq _ _ _ (fun c h=>by cases h)];have xZ:(execOp a.eval ⟨dst,.call ⟨.value (.tmp tm),args,argTypes⟩,type,pos,after,guard⟩).run E.P w=.ok (.round g fn tmps assign body) w:=by simp only[execOp,resolve,Deferred.ofValue,hy];simpa[invoke]using y1
     rw[xZ,Oper.uponIn_round];refine⟨fun h=>(by cases h),(FR.adG y2).mono ?_⟩;rintro e w' ⟨v,f',m',y,μ',φ',h0,rfl,_,h1,h2,h3,h4⟩;exact hK v f' m' y w' μ' φ' h0 h1 h2 h3 h4
  ·cases h
 ·cases h
theorem Pd{a b:Option R}(h:agree a b=some r):a=some r∧b=some r:=by
 unfold agree at h;split at h
 ·rename_i e;exact⟨h,by rw[←e];exact h⟩
 ·cases h
theorem WW{op:BinOp}{t:TypeId}{es:List PV}{k:Bool→Option R}(h:Rn E op t es k=some r):∃e,E.P.underlying t=some (.slice e)∧((op=.eql∧∀b,(b=true→es=[])→k b=some r)∨(op=.neq∧∀b,(b=false→es=[])→k b=some r)):=by
 unfold Rn at h;split at h
 ·rename_i e hu;refine⟨e,hu,.inl ⟨rfl,fun b hb=>?_⟩⟩;split at h
  ·obtain⟨h1,h2⟩:=Pd h;cases b<;>assumption
  ·rename_i bU;cases b with
   |true=>exact absurd (by simp[hb rfl]) bU
   |false=>exact h
 ·rename_i e hu;refine⟨e,hu,.inr ⟨rfl,fun b hb=>?_⟩⟩;split at h
  ·obtain⟨h1,h2⟩:=Pd h;cases b<;>assumption
  ·rename_i bU;cases b with
   |false=>exact absurd (by simp[hb rfl]) bU
   |true=>exact h
 ·cases h
theorem adI{op:BinOp}{t:TypeId}{x y:Operand}{ty type:TypeId}{pos:String}{s:Nat}{es:List PV}(h:cg E draw site ⟨dst,.binOp op t x y ty,type,pos,after,guard⟩ f m k=some r)(hx:bJ E f x=.pv (.rs s es))(hy:bJ E f y=.fM):draw=false∧Jc E ⟨dst,.binOp op t x y ty,type,pos,after,guard⟩ f m k r:=by
 simp only[cg,hx,hy]at h;split at h
 ·cases h
 ·rename_i hd;refine⟨by simpa using hd,And.intro (fun c x y h=>by cases h) fun rd w0 μ φ a w K Q _ hR hK=>FV (fun c h=>by cases h) ?_⟩;obtain⟨e,hu,hk⟩:=WW h;have h1:=(au hR x).1;have h2:=(au hR y).1;rw[hx]at h1;rw[hy]at h2;generalize hvx:a.eval x=vx at h1;generalize hvy:a.eval y=vy at h2;have KK:∃(ad:Option Addr)(n c:Nat),vx=.slice ad n c∧(ad=none→es=[]):=by
   cases h1 with
   |pv h1=>
    cases h1 with
    |l5=>exact⟨none,0,0,rfl,fun _=>rfl⟩
    |Ox _=>exact⟨_,_,_,rfl,fun _=>rfl⟩
    |rs _ _ _ _ _ _ _=>exact⟨_,_,_,rfl,fun h=>by cases h⟩
  obtain⟨ad,n,c,rfl,afN⟩:=KK;cases h2;have go:∀b,(binOp op t (.slice ad n c) (.slice none 0 0)).run E.P w=.ok (.bool b) w→k (.pv (.bool b)) f m [(true,0)]=some r→(⟨dst,.binOp op t x y ty,type,pos,after,guard⟩:Oper).wp E.P a w K Q:=fun b hb hkb=>by refine gk (y:=.bool b) (w':=w) ?_ (hK _ _ _ _ _ _ _ hkb hR.toaA hR.kO (.pv .bool) (by simp));simp only[execOp,eqGuard_at_slice,Sem.run_bind,Sem.run_pure,hvx,hvy,Result.andThen_ok];rw[hb];rfl
  rcases hk with⟨rfl,hk⟩|⟨rfl,hk⟩
  ·refine go ad.isNone (Lib.run_eql_slice_nil w t e ad n c 0 0 hu) (hk _ fun hb=>afN (by simpa using hb))
  ·refine go (!ad.isNone) ?_ (hk _ fun hb=>afN (by simpa using hb));simp only[binOp];simp[Op.equal,Op.maxDepth,Lib.run_equalIn_slice_nil w 9999 t e ad n c 0 0 hu]
theorem ZM(h:cg E draw site o f m k=some r)(hi:Rs o.op=true):draw=false∧Jc E o f m k r:=by
 obtain⟨dst,op,type,pos,after,guard⟩:=o;unfold cg at h;cases op<;>first|(cases hi;done)|skip
 case range t x=>
  simp only at h;split at h
  ·cases h
  ·rename_i hd;refine⟨by simpa using hd,And.intro (fun c x y h=>by cases h) fun rd w0 μ φ a w K Q _ hR hK=>FV (fun c h=>by cases h) ?_⟩;obtain⟨f',m',hk,hl,hs⟩:=WM h;obtain⟨w',y',μ',φ',r1,r2,r3,r4⟩:=hs _ _ _ _ _ _ _ hR.toaA hR.kO (au hR x).1;exact gk (y:=y') (w':=w') (by simp[execOp,r1]) (hK _ _ _ _ _ _ _ hk r2 r3 r4 fun id hid=>by have:=IT hid;subst this;exact hl)
 case next x s=>
  simp only at h;split at h
  ·cases h
  ·rename_i hd;simp only[aon,aq5,aoZ]at hd;obtain⟨hd,rfl⟩:=hd;refine⟨hd,And.intro (fun c x y h=>by cases h) fun rd w0 μ φ a w K Q _ hR hK=>FV (fun c h=>by cases h) ?_⟩;obtain⟨v,m',y',w',hk,hv,hl,r1,r2,r3⟩:=Zu h _ _ _ _ _ _ type hR.toaA (au hR x).1;exact gk (y:=y') (w':=w') (by simp[execOp,r1]) (hK _ _ _ _ _ _ _ hk r2 (hR.kO.oI (fun _ _ h=>h) hl) r3 fun id hid=>by rw[hv id]at hid;cases hid)
 case entry x=>
  simp only at h;split at h
  ·cases h
  ·rename_i hd;refine⟨by simpa using hd,And.intro (fun c x y h=>by cases h) fun rd w0 μ φ a w K Q _ hR hK=>FV (fun c h=>by cases h) ?_⟩;obtain⟨v,m',y',hk,hv,hl,r1,r3,r2⟩:=WQ h _ _ _ _ _ _ _ hR.toaA (au hR x).1;exact gk (y:=y') (w':=w) (by simp[execOp,r1]) (hK _ _ _ _ _ _ _ hk r3 (hR.kO.oI (fun _ _ h=>h) hl) r2 fun id hid=>by rw[hv id]at hid;cases hid)
theorem adJ(hE:jM E)(h:cg E draw site o f m k=some r):(∃v f' m' ft,k v f' m' ft=some r∧zd E draw site o f m v f' m' ft)∨(draw=false∧Jc E o f m k r):=by
 by_cases hc:∃c,o.op=.call c
 ·obtain⟨dst,op,type,pos,after,guard⟩:=o;obtain⟨⟨callee,args,argTypes⟩,hc⟩:=hc;simp only at hc;subst hc;exact ZK hE h
 ·by_cases hb:∃op t x y ty s es,o.op=.binOp op t x y ty∧bJ E f x=.pv (.rs s es)∧bJ E f y=.fM
  ·obtain⟨op,t,x,y,ty,s,es,h1,h2,h3⟩:=hb;obtain⟨dst,op',type,pos,after,guard⟩:=o;simp only at h1;subst h1;exact .inr (adI h h2 h3)
  ·cases hi:Rs o.op with
   |true=>exact .inr (ZM h hi)
   |false=>exact .inl (adH hE h (fun c hcc=>hc ⟨c,hcc⟩) (fun op t x y ty s es h1 h2 h3=>hb ⟨op,t,x,y,ty,s,es,h1,h2,h3⟩) hi)
theorem Rel.Dw{nt:Nat}{P:Program}{G:Nat→Option (List PV)}{w0:bu}{μ:Ro}{φ:Nat→aH}{f:Fr}{m:Mem}{a:Act}{w:World}(h:Rel P G nt w0 μ φ f m a w){K:Ro}(hK:∀b o,K b=some o→μ b=some o)(hK0:∀b o,w0.dC b=some o→K b=some o):Rel P G nt {w0 with dC:=K} μ φ f m a w:={toaA:=h.toaA.Dw hK,size:=h.size,defers:=h.defers,lj:=fun b o hb=>hK0 b o (h.lj b o hb),fr:=h.fr,live:=h.live}
theorem Rel.IY{nt:Nat}{P:Program}{G:Nat→Option (List PV)}{w0:bu}{μ:Ro}{φ:Nat→aH}{f:Fr}{m:Mem}{a:Act}{w:World}{K:Ro}(h:Rel P G nt {w0 with dC:=K} μ φ f m a w)(hK:∀b o,w0.dC b=some o→K b=some o)(ho:∀b o,w0.lj b=some o→w0.dC b=some o):Rel P G nt w0 μ φ f m a w:={toaA:=h.toaA.IY hK,size:=h.size,defers:=h.defers,lj:=ho,fr:=h.fr,live:=h.live}
abbrev Pe(μ μ':Ro):Prop:=∀b o,μ b=some o→μ' b=some o
theorem RW(h:cg E draw site o f m k=some r):∀c,o.op≠.defer c:=by intro c hc;obtain⟨dst,op,type,pos,after,guard⟩:=o;simp only at hc;subst hc;simp[cg]at h
theorem zd.Dy{f':Fr}{ft:bB}(h:zd E draw site o f m v f' m' ft)(hd:∀c,o.op≠.defer c)(rd:Option Nat)(w0:bu)(μ:Ro)(φ:Nat→aH)(a:Act)(w:World)(K:Act→World→Prop)(Q:Exit→Act→World→Prop)(hR:Rel E.P E.az E.fn.ntmps w0 μ φ f m a w)(hK:∀y w' μ' φ',Pe μ μ'→aA E.P E.az w0 μ' φ' m' w'→cd E.P μ' φ' m' f' (bV E.fn.ntmps w0 a)→an E.P μ' φ' v y→(∀id,v.has id=true→(m' id).isSome=true)→K (a.put o.dst y) w'):o.wpIn (FR rd) 0 E.P a w K Q:=FV hd (h.sound {w0 with dC:=μ} μ φ a w K Q (hR.Dw (fun _ _ h=>h) hR.dC) fun y w' μ' φ' h1 h2 h3 h4=>hK y w' μ' φ' h1.dC (h1.IY hR.dC) h2 h3 h4)
theorem Jc.Dy(h:Jc E o f m k r)(rd:Option Nat)(w0:bu)(μ:Ro)(φ:Nat→aH)(a:Act)(w:World)(K:Act→World→Prop)(Q:Exit→Act→World→Prop)(hY:tA E.P E.az E.fn.ntmps E.yl w0)(hR:Rel E.P E.az E.fn.ntmps w0 μ φ f m a w)(hK:∀v f' m' y w' μ' φ',k v f' m' [(true,0)]=some r→Pe μ μ'→aA E.P E.az w0 μ' φ' m' w'→cd E.P μ' φ' m' f' (bV E.fn.ntmps w0 a)→an E.P μ' φ' v y→(∀id,v.has id=true→(m' id).isSome=true)→K (a.put o.dst y) w'):o.wpIn (FR rd) 0 E.P a w K Q:=h.2 rd {w0 with dC:=μ} μ φ a w K Q (hY.Dw hR.dC) (hR.Dw (fun _ _ h=>h) hR.dC) fun v f' m' y w' μ' φ' h0 h1 h2 h3 h4=>hK v f' m' y w' μ' φ' h0 h1.dC (h1.IY hR.dC) h2 h3 h4
end
section
variable {R:Type} {E:Env}
variable{site:Nat}{o:Oper}{k:V→Fr→Mem→bB→Option R}
theorem RX{f:Fr}{m:Mem}{sp:Sp}{r:R}(hs:Dj E site o f m=some sp)(h:xsp E site sp f m k=some r):∃v wr,k v (kf (sp.info site).1 f) (vT wr (km (sp.info site).1 m)) (sp.info site).2=some r∧(∀x∈wr,(true,x.1)∈(sp.info site).2)∧(∀x∈(sp.info site).1,(true,x.2)∈(sp.info site).2)∧(∀(f2:Fr)(m2:Mem)(R':Type)(k':V→Fr→Mem→bB→Option R'),xsp E site sp f2 m2 k'=k' v (kf (sp.info site).1 f2) (vT wr (km (sp.info site).1 m2)) (sp.info site).2)∧(∀c,o.op≠.defer c)∧zd E false site o f m v (kf (sp.info site).1 f) (vT wr (km (sp.info site).1 m)) (sp.info site).2:=by
 obtain⟨dst,op,type,pos,after,guard⟩:=o;unfold Dj at hs;cases op;case store t a x=>
  simp only at hs;split at hs
  ·rename_i id i off ha;split at hs
   ·rename_i s et es hm;split at hs
    ·rename_i cs hc;split at hs
     ·rename_i ps j id2 ht;split at hs
      ·rename_i l7;simp only[tb]at hs;subst hs;simp only[aeu,tc,aou]at l7;obtain⟨⟨hb,h0⟩,bU⟩:=l7;have bU:id2≠id:=fun e=>by simp_all
       unfold xsp at h;obtain⟨e,he,h⟩:=By.1 h;refine⟨_,_,h,by simp[Sp.info],by simp[Sp.info],fun f2 m2 R' k'=>by simp only[xsp,he,aoe];rfl,by simp,⟨fun h=>(nomatch h),fun _ h=>absurd (h (true,id) (by simp[Sp.info])) (by simp),fun w0 μ φ ac w K Q hR hK=>?_⟩⟩;obtain⟨w',φ',u1,u2,u3⟩:=Zy hm hc ht hb h0 bU he hR.toaA hR.kO (by have:=(au hR a).1;rw[ha]at this;exact this) (au hR x).1;exact A2 (by simp[execOp,u1]) (hK undef w' μ φ' u2 u3 .top (by simp))
      ·cases hs
     ·cases hs
    ·cases hs
   ·cases hs
  ·cases hs
 case buildSlice t len parts=>
  simp only at hs;split at hs
  ·rename_i e v hu hp;split at hs
   ·rename_i cs hc;split at hs
    ·rename_i ps j id2 ht aiE;split at hs
     ·rename_i p Pa;split at hs
      ·rename_i l7;simp only[tb]at hs;subst hs;simp only[aeu,tc]at l7;obtain⟨⟨⟨hlen,eY⟩,WX⟩,hz⟩:=l7;have hlen:=IT hlen;subst hlen;refine⟨_,_,h,by simp[Sp.info],by simp[Sp.info],fun f2 m2 R' k'=>rfl,by simp,⟨fun h=>(nomatch h),fun h _=>by(simp[fH]at h),fun w0 μ φ ac w K Q hR hK=>?_⟩⟩;obtain⟨x,hx,hxv⟩:∃x,parts= #[(0,x)]∧bJ E f x=v:=by
        obtain⟨l⟩:=parts;match l,hp with
        |[(a,x)],hp=>simp_all
       subst hx;obtain⟨y,w',φ',u1,u2,u3,u4⟩:=WR hu hc ht aiE Pa eY WX hz hR.toaA hR.kO (by have:=(au hR x).1;rw[hxv]at this;exact this);exact gk (y:=y) (w':=w') (by simp_all[execOp,Sem.run_bind,Result.andThen_ok,Sem.run_pure]) (hK y w' μ φ' u2 u3 u4 fun j hj=>by have hj:=IT hj;subst hj;simp[vT])
      ·cases hs
     ·cases hs
    ·cases hs
   ·cases hs
  ·cases hs
 case call c=>
  obtain⟨callee,args,argTypes⟩:=c;simp only at hs;split at hs
  ·rename_i id x t t' ha hty;split at hs
   ·rename_i e s et es hu hm;split at hs
    ·rename_i l7;simp only[aeu,tc]at l7;obtain⟨⟨⟨⟨⟨h1,h2⟩,h3⟩,h4⟩,h5⟩,h6⟩:=l7;subst h3;have h1:et=e:=by omega
     subst h1;have uA:∃y z,args= #[y,z]∧bJ E f y=.os id∧bJ E f z=x:=by
      obtain⟨l⟩:=args;rcases l with _|⟨y,_|⟨z,_|⟨u,l⟩⟩⟩
      ·simp at ha
      ·simp at ha
      ·grind
      ·simp at ha
     obtain⟨y,z,rfl,hy,hz⟩:=uA;have adK:argTypes= #[t',t']:=apI (by omega);subst adK;have main:∀(new:List PV)(src:Option Nat)(rd:bB),sp=.app id s et es new src rd→((∃id2,src=some id2∧id2≠id∧x=.os id2∧m id2=some (.nest s et new))∨(src=none∧fN m s x=some (new,rd)))→∃v wr,k v (kf (sp.info site).1 f) (vT wr (km (sp.info site).1 m)) (sp.info site).2=some r∧(∀x∈wr,(true,x.1)∈(sp.info site).2)∧(∀x∈(sp.info site).1,(true,x.2)∈(sp.info site).2)∧(∀(f2:Fr)(m2:Mem)(R':Type)(k':V→Fr→Mem→bB→Option R'),xsp E site sp f2 m2 k'=k' v (kf (sp.info site).1 f2) (vT wr (km (sp.info site).1 m2)) (sp.info site).2)∧(∀c,(⟨dst,.call ⟨.builtin .append,#[y,z],#[t',t']⟩,type,pos,after,guard⟩:Oper).op≠.defer c)∧zd E false site ⟨dst,.call ⟨.builtin .append,#[y,z],#[t',t']⟩,type,pos,after,guard⟩ f m v (kf (sp.info site).1 f) (vT wr (km (sp.info site).1 m)) (sp.info site).2:=by
      intro new src rd wW CK;subst wW;simp only[xsp]at h;split at h
      ·rename_i bw;have hw:(true,id)∈(Sp.info site (.app id s et es new src rd)).2:=by cases src<;>simp[Sp.info]
       have hkm:vT [(id,.nest s et (es++new))] (km (Sp.info site (.app id s et es new src rd)).1 m)=aw (bq (bK id (Uc src m)) id) id (.nest s et (es++new)):=by cases src<;>rfl
       have hkf:kf (Sp.info site (.app id s et es new src rd)).1 f=eP id (kfS src f):=by cases src<;>rfl
       refine⟨_,_,h,fun q hq=>(by simp_all),fun q hq=>?_,fun f2 m2 R' k'=>by simp only[xsp];rw[No bw],by simp,⟨fun h=>(nomatch h),fun _ h=>absurd (h (true,id) hw) (by simp),fun w0 μ φ ac w K Q hR hK=>?_⟩⟩
       ·cases src<;>simp only[Sp.info,aoc,aqP,or_false]at hq⊢
        ·subst hq;simp
        grind
       ·obtain⟨w',y',φ',u1,u2,u3,u4⟩:=WU (ty:=type) hu hm h2 h4 h5 h6 bw CK hR.toaA hR.kO (by have:=(au hR y).1;rw[hy]at this;exact this) (by have:=(au hR z).1;rw[hz]at this;exact this);exact gk (y:=y') (w':=w') (by simp[execOp,resolve,invoke,builtin,u1]) (hK y' w' μ φ' (by rw[hkm];omega) (by rw[hkm,hkf];omega) u4 fun j hj=>by have hj:=IT hj;subst hj;simp[vT])
      ·cases h
     split at hs
     ·rename_i vM;split at hs
      ·rename_i s' Kz new hm';split at hs
       ·rename_i TW;simp only[aeu,tc]at TW;obtain⟨⟨c1,c2⟩,c3⟩:=TW;have c1:=IT c1;subst c1;subst c2;simp only[tb]at hs;exact main new (some vM) [] hs.symm (.inl ⟨vM,rfl,fun e=>by simp_all,rfl,hm'⟩)
       ·cases hs
      grind
     grind
    ·cases hs
   ·cases hs
  ·cases hs
 case mapUpdate t x key v=>
  simp only at hs;split at hs
  ·rename_i kt et id id2 hu hx hv;split at hs
   ·rename_i AG e es s e' rs kp h1 h2 hk;split at hs
    ·rename_i l7;simp only[tb]at hs;subst hs;simp only[aeu,tc]at l7;obtain⟨⟨hkt,hee⟩,_⟩:=l7;subst hkt;subst hee;refine⟨_,_,h,by simp[Sp.info],by simp[Sp.info],fun f2 m2 R' k'=>rfl,by simp,⟨fun h=>(nomatch h),fun h _=>by(simp[fH]at h),fun w0 μ φ ac w K Q hR hK=>?_⟩⟩;obtain⟨w',φ',u1,u2,u3⟩:=WT hu h1 h2 hk hR.toaA hR.kO (by have:=(au hR x).1;rw[hx]at this;exact this) (au hR key).1 (by have:=(au hR v).1;rw[hv]at this;exact this);exact A2 (by simp[execOp,u1]) (hK undef w' μ φ' u2 u3 .top (by simp))
    ·cases hs
   ·cases hs
  ·cases hs
 all_goals (cases hs)
theorem Na(hE:jM E){draw:Bool}{f:Fr}{m:Mem}{r:R}(h:Ov E draw site o f m k=some r):(∃v f' m' ft,k v f' m' ft=some r∧zd E draw site o f m v f' m' ft)∨(draw=false∧Jc E o f m k r):=by
 unfold Ov at h;split at h
 ·rename_i sp wW;cases draw with
  |true=>cases wW
  |false=>simp only[cond]at wW;grind [RX]
 ·exact adJ hE h
theorem FX{draw:Bool}{f:Fr}{m:Mem}{r:R}(h:Ov E draw site o f m k=some r):∀c,o.op≠.defer c:=by
 unfold Ov at h;split at h
 ·rename_i sp wW;cases draw with
  |true=>cases wW
  |false=>simp only[cond]at wW;grind [RX]
 ·exact RW h
end
end Go.Ab
