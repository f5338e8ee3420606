import Derived.Test.YtanikidijjaohaaGreatAbP5
import Derived.Lib.SliceRun
import Derived.Laws.IdiomStrings
set_option linter.unusedVariables false
set_option linter.unusedSimpArgs false
namespace Go.Ab
open Go.RowKit (Below)
section
variable {R:Type} {E:Env}
variable{t:TypeId}
theorem Fz{P:Program}{w:World}{ms:Array (String×TypeId)}(hu:P.underlying t=some (.interface ms)){b:Bool}{x:Value}{μ:Ro}(hx:af P μ (.Vv b) x):(Op.equalIn 10000 t x .nilIface).run P w=.ok (!b) w:=by show(Op.equalIn (9999+1) t x .nilIface).run P w=.ok (!b) w;cases hx<;>(unfold Op.equalIn;simp only[Sem.run_bind,run_underlying hu,Result.andThen_ok];rfl)
theorem Bj{P:Program}{w:World}{op:BinOp}{ox:Operand}{c:Value}{b:Bool}{x:Value}{μ:Ro}(hx:af P μ (.Vv b) x):(eqGuard op t ox (.const c) x .nilIface).run P w=.ok () w:=by
 cases hx
 ·rw[eqGuard_nil_constR];rfl
 ·rename_i d z;have:eqGuard op t ox (.const c) (.iface d z) .nilIface=pure ():=by cases op<;>rfl
  rw[this];rfl
theorem Te{op:BinOp}{oy:Operand}{a b:V}{k:PV→Option R}{r:R}(h:Ic E op t oy a b k=some r):∃q,(∀(R':Type)(k':PV→Option R'),Ic E op t oy a b k'=k' q)∧k q=some r∧∀(μ:Ro)(φ:Nat→aA)(w:World)(ox:Operand)(x y:Value),(Cl oy=true→y=.nilIface)→ae E.P μ φ a x→ae E.P μ φ b y→∃z,(rK op t ox oy x y).run E.P w=.ok z w∧af E.P μ q z:=by
 unfold Ic at h⊢;cases hn:Cl oy with
 |false=>rw[hn]at h;obtain⟨q,q1,q2,q3⟩:=V1 h;exact⟨q,fun R' k'=>q1 R' k',q2,fun μ φ w ox x y _ hx hy=>q3 μ φ w ox oy x y hx hy⟩
 |true=>
  rw[hn]at h;simp only[cond]at h⊢;have hoy:oy=.const .nilIface:=by unfold Cl at hn;grind
  subst hoy;unfold St at h⊢;split at h
  ·rename_i c;split at h
   ·rename_i ms hu;refine⟨_,fun R' k'=>by rfl,h,fun μ φ w ox x y hy hx _=>?_⟩;have:=hy trivial;subst this;cases hx with
    |pv hx=>exact⟨_,bU (Bj hx) (im (by cases hx<;>rfl) (Fz hu hx)),.bool⟩
   ·rename_i ms hu;refine⟨_,fun R' k'=>by rfl,h,fun μ φ w ox x y hy hx _=>?_⟩;have:=hy trivial;subst this;cases hx with
    |pv hx=>refine⟨_,bU (Bj hx) (iq (by cases hx<;>rfl) (Fz hu hx)),?_⟩;rw[Bool.not_not];exact .bool
   ·cases h
  ·cases h
theorem FA{P:Program}{μ:Ro}:∀{es:List PV}{b:Bytes}{xs:List Value},zR es=some b→Cells P μ 1 es xs→b.length=es.length∧xs=b.map fun c=>.int .u8 (c.toNat:Int)
 |[],b,xs,h,hC=>by simp only[zR,AI]at h;subst h;have:=hC.len;simp_all
 |e::es,b,xs,h,hC=>by
  unfold zR at h;split at h
  ·rename_i he;cases he
  ·rename_i n r he;simp only[ahs]at he;obtain⟨rfl,rfl⟩:=he;obtain⟨b',gX,rfl⟩:=aaO.1 h;cases xs with
   |nil=>have:=hC.len;simp at this
   |cons x xs=>
    have hx:x=.int .u8 n∧(Lit.int .u8 n).wf=true:=by
     have:=hC.rep 0 _ 0 _ x rfl rfl rfl;cases this with
     |int hw=>exact⟨rfl,hw⟩
    obtain⟨rfl,hw⟩:=hx;have hC':Cells P μ 1 es xs:=⟨by have:=hC.len;simp at this⊢;omega,fun i e hi=>hC.each (i+1) e (by simpa using hi),fun i e j p y hi hj hy=>hC.rep (i+1) e j p y (by simpa using hi) hj (by grind),fun i y hy=>hC.one (i+1) y (by simpa using hy)⟩;obtain⟨h1,h2⟩:=FA gX hC';refine⟨by simp[h1],?_⟩;rw[agP,←h2];rw[nF]at hw;grind [IntKind.min,IntKind.max,IntKind.signed,IntKind.bits,UInt8.ofNat,UInt8.toNat_ofNat']
  ·cases h
theorem Q4{s d:TypeId}{a:V}{m:Mem}{k:PV→bp→Option R}{r:R}(h:zS E s d a m k=some r):∃q ft,(∀m2:Mem,(∀x∈ft,m2 x.2=m x.2)→∀(R':Type)(k':PV→bp→Option R'),zS E s d a m2 k'=k' q ft)∧k q ft=some r∧(∀x∈ft,x.1=false)∧∀(G:Nat→Option (List PV))(w0:bu)(μ:Ro)(φ:Nat→aA)(w:World)(x:Value),aw E.P G w0 μ φ m w→ae E.P μ φ a x→∃z,(convert s d x).run E.P w=.ok z w∧af E.P μ q z:=by
 unfold zS at h;split at h
 ·rename_i e hs hd;split at h
  ·rename_i es ft hu B4;obtain⟨b,hb,hk⟩:=By.1 h;obtain⟨e1,e2,e3⟩:=na B4;refine⟨.str b,ft,fun m2 cQ R' k'=>by simp_all[zS,agO],hk,e2,fun G w0 μ φ w x hM hx=>?_⟩;have xK:=e3 _ _ _ _ _ _ _ hM hx;cases xK with
   |none he=>subst he;simp only[zR,AI]at hb;subst hb;exact⟨_,by simp[convert,run_underlying hs,run_underlying hd,run_underlying hu,Conv.bytesToString];rfl,.str (by decide)⟩
   | @some a c xs hC hc hl hm=>obtain⟨h1,h2⟩:=FA hb hC;subst h2;rw[←h1];refine⟨_,run_convert_bytes_back w s d e a c b hs hu hd fun j hj=>hc j _ (by grind),.str (by omega)⟩
  ·cases h
 ·rename_i Bk;obtain⟨q,q1,q2,q3⟩:=SM h;refine⟨q,[],fun m2 _ R' k'=>?_,q2,by simp,fun G w0 μ φ w x _ hx=>q3 μ φ w x hx⟩;simp_all[zS,absurd]
end
structure tC(E:Env)(draw:Bool)(site:Nat)(o:Oper)(f:Fr)(m:Mem)(v:V)(f':Fr)(m':Mem)(ft:bp):Prop where
 drawn:draw=true→f'=f∧∃wr:List (Nat×bF),m'=sj wr m∧(∀x∈wr,(true,x.1)∈ft)∧∀(f2:Fr)(m2:Mem),(∀x∈o.op.operands,bA E f2 x=bA E f x)→(∀x∈ft,m2 x.2=m x.2)→∀(R':Type)(k':V→Fr→Mem→bp→Option R'),cC E true site o f2 m2 k'=k' v f2 (sj wr m2) ft
 same:eZ o=true→(∀x∈ft,x.1=false)→f'=f∧m'=m
 sound:∀(w0:bu)(μ:Ro)(φ:Nat→aA)(a:Act)(w:World)(K:Act→World→Prop)(Q:Exit→Act→World→Prop),Rel E.P E.aH E.fn.ntmps w0 μ φ f m a w→(∀y w' μ' φ',aw E.P E.aH w0 μ' φ' m' w'→bX E.P μ' φ' m' f' (ax E.fn.ntmps w0 a)→ae E.P μ' φ' v y→(∀id,v.has id=true→(m' id).isSome=true)→K (a.put o.dst y) w')→o.wp E.P a w K Q
def FR(rd:Option Nat):Fence:={Fence.wide with round:=rd}
variable{rd:Option Nat}{P:Program}
theorem FR.Wi{m m':Machine}:StepsIn (Machine.fenced P (FR rd)) P m m'↔Steps P m m':=stepsIn_wide (P:=P)
variable{args:Array Value}{w:World}{R:Ending→World→Prop}
theorem FR.Px{n:Nat}{f:FuncId}(h:Calls P f args w R):CallsIn (FR rd) n P f args w R:=(callsIn_wide (n:=n)).2 h
theorem FR.Zt{n:Nat}{row:String}{R:Value→World→Prop}(h:Rows P row args w R):RowsIn (FR rd) n P row args w R:=fun c cs _=>let⟨v,w',r,s⟩:=h c cs;⟨v,w',r,FR.Wi.2 s⟩
theorem FR.Wj{n n':Nat}{l:Nat}{f:FuncId}{tmps:Array Value}{assign body:Code}(h:RoundIn Fence.wide n P l f tmps assign body w R):RoundIn (FR rd) n' P l f tmps assign body w R:=⟨trivial,fun c cs _=>h.2 c cs (room_wide _)⟩
theorem Ah{o:Oper}{a:Act}{K:Act→World→Prop}{Q:Exit→Act→World→Prop}(hd:∀c,o.op≠.defer c)(h:o.wp P a w K Q):o.wpIn (FR rd) 0 P a w K Q:=by
 refine⟨fun _ _=>trivial,?_⟩;rw[Oper.semAt_eq _ _ _ hd];unfold Oper.wp at h;cases hr:(execOp a.eval o).run P w with
 |ok nx w'=>
  rw[hr]at h;cases nx with
  |value v=>exact h
  |skip=>exact h
  |defer d=>exact h
  |enter f args=>exact⟨fun h=>(by cases h),FR.Px h⟩
  |row row args=>exact⟨fun h=>(by cases h),FR.Zt h⟩
  |_=>exact h.elim
 |halt h' w'=>
  rw[hr]at h;cases h' with
  |panic v=>exact h
  |_=>exact h.elim
def C5{R:Type}(E:Env)(o:Oper)(f:Fr)(m:Mem)(k:V→Fr→Mem→bp→Option R)(r:R):Prop:=
 (∀c x y,o.op≠.pick c x y)∧
 ∀(rd:Option Nat)(w0:bu)(μ:Ro)(φ:Nat→aA)(a:Act)(w:World)(K:Act→World→Prop)(Q:Exit→Act→World→Prop),sw E.P E.aH E.fn.ntmps E.yl w0→Rel E.P E.aH E.fn.ntmps w0 μ φ f m a w→(∀v f' m' y w' μ' φ',k v f' m' [(true,0)]=some r→aw E.P E.aH w0 μ' φ' m' w'→bX E.P μ' φ' m' f' (ax E.fn.ntmps w0 a)→ae E.P μ' φ' v y→(∀id,v.has id=true→(m' id).isSome=true)→K (a.put o.dst y) w')→o.wpIn (FR rd) 0 E.P a w K Q
section
variable {R:Type} {E:Env}
variable{w0:bu}{μ:Ro}{φ:Nat→aA}{f:Fr}{m:Mem}{a:Act}{w:World}
theorem Rel.kc(h:Rel E.P E.aH E.fn.ntmps w0 μ φ f m a w):bX E.P μ φ m f (ax E.fn.ntmps w0 a):=⟨h.fr,h.live⟩
variable{P:Program}{o:Oper}{K:Act→World→Prop}{Q:Exit→Act→World→Prop}
theorem fA{w':World}{y:Value}(hr:(execOp a.eval o).run P w=.ok (.value y) w')(h:K (a.put o.dst y) w'):o.wp P a w K Q:=by unfold Oper.wp;rw[hr];exact h
theorem uW{w':World}(hr:(execOp a.eval o).run P w=.ok .skip w')(h:K (a.put o.dst undef) w'):o.wp P a w K Q:=by unfold Oper.wp;rw[hr];exact h
variable{draw:Bool}{site:Nat}{v:V}
theorem tC.read{ft:bp}(nat:∀(f2:Fr)(m2:Mem),(∀x∈o.op.operands,bA E f2 x=bA E f x)→(∀x∈ft,m2 x.2=m x.2)→∀(R':Type)(k':V→Fr→Mem→bp→Option R'),cC E true site o f2 m2 k'=k' v f2 m2 ft)(hs:∀(w0:bu)(μ:Ro)(φ:Nat→aA)(a:Act)(w:World),Rel E.P E.aH E.fn.ntmps w0 μ φ f m a w→∃y,(execOp a.eval o).run E.P w=.ok (.value y) w∧ae E.P μ φ v y∧∀id,v.has id=true→(m id).isSome=true):tC E draw site o f m v f m ft:=by refine⟨fun _=>⟨rfl,[],rfl,by simp,nat⟩,fun _ _=>⟨rfl,rfl⟩,fun w0 μ φ a w K Q hR hK=>?_⟩;obtain⟨y,hr,hy,hl⟩:=hs w0 μ φ a w hR;exact fA hr (hK y w μ φ hR.toaw hR.kc hy hl)
variable{m':Mem}
theorem tC.make{f':Fr}{b:bF}(hd:draw=true→m site=none∧f'=f∧m'=al m site b)(nat:draw=true→∀(f2:Fr)(m2:Mem),(∀x∈o.op.operands,bA E f2 x=bA E f x)→m2 site=none→∀(R':Type)(k':V→Fr→Mem→bp→Option R'),cC E true site o f2 m2 k'=k' v f2 (al m2 site b) [(true,site)])(hs:∀(w0:bu)(μ:Ro)(φ:Nat→aA)(a:Act)(w:World),Rel E.P E.aH E.fn.ntmps w0 μ φ f m a w→∃y w' μ' φ',(execOp a.eval o).run E.P w=.ok (.value y) w'∧aw E.P E.aH w0 μ' φ' m' w'∧bX E.P μ' φ' m' f' (ax E.fn.ntmps w0 a)∧ae E.P μ' φ' v y∧∀id,v.has id=true→(m' id).isSome=true):tC E draw site o f m v f' m' [(true,site)]:=by
 refine⟨fun h=>?_,fun _ h=>by simp_all,fun w0 μ φ a w K Q hR hK=>?_⟩
 ·obtain⟨h1,h2,h3⟩:=hd h;exact⟨h2,[(site,b)],h3,by simp,fun f2 m2 hf hm R' k'=>nat h f2 m2 hf (by simp_all) R' k'⟩
 grind [fA]
variable{args:Array Operand}
theorem kJ(h:Rel E.P E.aH E.fn.ntmps w0 μ φ f m a w):(args.toList.map (bA E f)).length=(args.map a.eval).size∧∀(i:Nat)v x,(args.toList.map (bA E f))[i]?=some v→(args.map a.eval)[i]?=some x→ae E.P μ φ v x:=by refine⟨by simp,fun i v x hv hx=>?_⟩;simp only[IS,aaO]at hv;obtain⟨o,ho,rfl⟩:=hv;grind [Option.some.injEq,ak]
theorem pz(h:Rel E.P E.aH E.fn.ntmps w0 μ φ f m a w){args:List Operand}{id:Nat}(an:ck id (args.map (bA E f))=true):(m id).isSome=true:=by obtain⟨v,hv,hh⟩:=cF.1 an;obtain⟨o,_,rfl⟩:=agZ.1 hv;exact(ak h o).2 id hh
theorem nK{f2:Fr}{l:List Operand}(h:∀x∈l,bA E f2 x=bA E f x):l.map (bA E f2)=l.map (bA E f):=ahc h
theorem ru{f2:Fr}{l:List (Nat×Operand)}(h:∀x∈l,bA E f2 x.2=bA E f x.2):(l.map fun(x:Nat×Operand)=>(x.1,bA E f2 x.2))=l.map fun(x:Nat×Operand)=>(x.1,bA E f x.2):=ahc fun x hx=>by rw[h x hx]
variable{g:FuncId}
theorem wI{fn:Func}{c:Code}(hf:P.funcs[g]?=some fn)(X0:(fn.name== "runtime.NumGoroutine")=false)(hb:fn.body=some c){args:Array Value}:(callFunc g args).run P w=.ok (.enter g args) w:=by simp_all[callFunc]
theorem qi{b:Bool}{x:Value}(h:ae P μ φ (.pv (.bool b)) x):x=.bool b:=by cases h with|pv h=>cases h;rfl
theorem Tf{p:PV}(h:Ck cW v=some (p,m'))(m:Mem):Ck m v=some (p,m):=by unfold Ck at h⊢;grind [Option.some.injEq,Prod.mk.injEq,cW]
theorem Ai:∀{cs:List V}{ps:List PV}{m':Mem},lJ cW cs=some (ps,m')→∀m:Mem,lJ m cs=some (ps,m)
 |[],ps,m',h,m=>by simp only[lJ,AI,Xp]at h;rw[←h.1];rfl
 |c::r,ps,m',h,m=>by
  simp only[lJ]at h;split at h
  ·rename_i p m1 h1;have e1:=pX h1;subst e1;split at h
   ·rename_i XT m2 h2;simp only[AI,Xp]at h;simp only[lJ,Tf h1 m,Ai h2 m,h.1]
   ·cases h
  ·cases h
theorem Bl:∀{cs:List V}{ps:List PV}{m':Mem},lJ cW cs=some (ps,m')→m'=cW
 |[],ps,m',h=>by simp_all[lJ,AI,Xp]
 |c::r,ps,m',h=>by
  simp only[lJ]at h;split at h
  ·rename_i p m1 h1;have e1:=pX h1;subst e1;split at h
   ·rename_i XT m2 h2;simp only[AI,Xp]at h;rw[←h.2];exact Bl h2
   ·cases h
  ·cases h
theorem IF{n:Nat}{agg:Bool}{p:PV}(h:j4 cW n agg v=some (p,m')):m'=cW∧∀m:Mem,j4 m n agg v=some (p,m):=by
 unfold j4 at h;split at h
 ·rename_i cs hc;split at h
  ·rename_i ps m1 h1;have e1:=Bl h1;subst e1;cases agg with
   |true=>simp only[T1,AI,Xp]at h;refine⟨h.2.symm,fun m=>?_⟩;unfold j4;simp only[hc,Ai h1 m,T1,h.1]
   |false=>
    simp only[AT,Xq]at h;split at h
    ·simp only[AI,Xp]at h;refine⟨h.2.symm,fun m=>?_⟩;unfold j4;simp only[hc,Ai h1 m,AT,Xq,h.1]
    ·cases h
  ·cases h
 ·cases h
theorem qj{n:Nat}{agg:Bool}:∀{parts:List (Nat×V)}{i:Nat}{ps:List PV}{m':Mem},eR cW n agg i parts=some (ps,m')→m'=cW∧∀m:Mem,eR m n agg i parts=some (ps,m)
 |[],i,ps,m',h=>by simp_all[eR,AI,Xp]
 |(j,v)::r,i,ps,m',h=>by
  simp only[eR]at h;split at h
  ·rename_i Ps;split at h
   ·rename_i p m1 h1;obtain⟨e1,e2⟩:=IF h1;subst e1;split at h
    ·rename_i XT m2 h2;obtain⟨e3,e4⟩:=qj h2;simp_all[AI,Xp,eR,BY]
    ·cases h
   ·cases h
  ·cases h
def y5(g:FuncId)(xs ys:Array Value):Array Value:=bif Nat.blt g Cj then ys++xs else xs++ys
theorem Py{caps args:List V}{xs ys:Array Value}(e1:args.length=ys.size)(h1:∀(i:Nat)v x,args[i]?=some v→ys[i]?=some x→ae P μ φ v x)(e2:caps.length=xs.size)(h2:∀(i:Nat)v x,caps[i]?=some v→xs[i]?=some x→ae P μ φ v x):(xD g caps args).length=(y5 g xs ys).size∧∀(i:Nat)v x,(xD g caps args)[i]?=some v→(y5 g xs ys)[i]?=some x→ae P μ φ v x:=by unfold xD y5;grind
theorem Tg{caps args:List V}(h:v∈xD g caps args):v∈args∨v∈caps:=by unfold xD at h;grind
theorem Th(g:FuncId)(xs:Array Value):yU (g+Cj) xs=.func (.func g) xs #[]:=by simp[yU,IN,Nat.le_add_left,ah1]
theorem tD{site:Nat}:∀{ts:List TypeId}{j:Nat}{F:Fr}{m:Mem}{k:Fr→Mem→Option R}{r:R},wo E site ts j F m k=some r→∃F' m',k F' m'=some r∧∀(G:Nat→Option (List PV))(w0:bu)(μ:Ro)(φ:Nat→aA)(w:World)(ρ:Nat→Value),aw E.P G w0 μ φ m w→bX E.P μ φ m F ρ→∃φ',aw E.P G w0 μ φ' m' w∧bX E.P μ φ' m' F' ρ
 |[],j,F,m,k,r,h=>⟨F,m,h,fun G w0 μ φ w ρ hM hF=>⟨φ,hM,hF⟩⟩
 |t::ts,j,F,m,k,r,h=>by
  simp only[wo]at h;split at h
  ·rename_i hj;split at h
   ·rename_i e hu;split at h
    ·rename_i er;obtain⟨f1,m1,hn,hk,uE,xj,uA⟩:=dX h;obtain⟨F',m',c1,c2⟩:=tD hk;refine⟨F',m',c1,fun G w0 μ φ w ρ hM hF=>?_⟩;obtain⟨φ',a1,a2,a3⟩:=uA E.P G w0 μ φ w w ρ (BI none 0 0 (aR E.P e)) hM hF ⟨kv.refl _ _,hM.ro,fun _ _ _ _ _=>rfl,by simp,fun φ' hp _=>by refine⟨by rw[hp];rfl,by rw[hp],rfl,er,by simp,by rw[hp];simp[maxLen],?_⟩;simp_all,by simp[bF.names],fun st h=>by cases h⟩;have hv:ρ j=.slice none 0 0:=by have:=hF.fr j;rw[hj]at this;generalize ρ j=y at this;cases this;rfl
     refine c2 G w0 μ φ' w ρ a2 ⟨fun s=>?_,fun s id an=>?_⟩
     ·by_cases e:s=j
      ·subst e;rw[show fY f1 s (.os (sq site s)) s=.os (sq site s) by simp_all,hv];exact .q6 (by rw[a1])
      ·rw[pU e];exact a3.fr s
     ·by_cases e:s=j
      ·subst e;rw[show fY f1 s (.os (sq site s)) s=.os (sq site s) by simp_all]at an;have an:=IT an;subst an;simp[uE]
      ·rw[pU e]at an;exact a3.live s id an
    ·cases h
   ·cases h
  ·exact tD h
variable{k:V→Fr→Mem→bp→Option R}{r:R}
theorem Wk(hE:jJ E)(h:cC E draw site o f m k=some r)(hc:∀c,o.op≠.call c)(hb:∀op t x y ty s es,o.op=.binOp op t x y ty→bA E f x=.pv (.rs s es)→bA E f y≠.gF)(BL:Le o.op=false):∃v f' m' ft,k v f' m' ft=some r∧tC E draw site o f m v f' m' ft:=by
 obtain⟨dst,op,type,pos,after,guard⟩:=o;unfold cC at h;cases op<;>simp only at h;case move x=>refine⟨_,_,_,_,h,.read (fun f2 m2 hf _ R' k'=>by simp only[cC];rw[hf x (by simp[Op.operands])]) fun w0 μ φ a w hR=>⟨_,rfl,(ak hR x).1,(ak hR x).2⟩⟩
 case pick c x y=>
  split at h
  ·rename_i t hc;cases t with
   |true=>simp only[T1]at h;refine⟨_,_,_,_,h,.read (fun f2 m2 hf _ R' k'=>by simp only[cC];rw[hf c (by simp[Op.operands]),hf x (by simp[Op.operands]),hc];simp) fun w0 μ φ a w hR=>?_⟩;have h1:=(ak hR c).1;rw[hc]at h1;exact⟨a.eval x,by simp[execOp,Go.asBool,qi h1],(ak hR x).1,(ak hR x).2⟩
   |false=>simp only[AT,Xq]at h;refine⟨_,_,_,_,h,.read (fun f2 m2 hf _ R' k'=>by simp only[cC];rw[hf c (by simp[Op.operands]),hf y (by simp[Op.operands]),hc];simp) fun w0 μ φ a w hR=>?_⟩;have h1:=(ak hR c).1;rw[hc]at h1;exact⟨a.eval y,by simp[execOp,Go.asBool,qi h1],(ak hR y).1,(ak hR y).2⟩
  ·cases h
 case assign x=>
  have mk:∀{v},bA E f x=v→(v=.gF→∀e,E.P.underlying type≠some (.slice e))→k v f m []=some r→∃v f' m' ft,k v f' m' ft=some r∧tC E draw site {dst,op:=.assign x,type,pos,after,guard} f m v f' m' ft:=by
   intro v hv cL hk;refine⟨v,f,m,[],hk,.read (fun f2 m2 hf _ R' k'=>?_) fun w0 μ φ a w hR=>⟨_,rfl,hv▸(ak hR x).1,hv▸(ak hR x).2⟩⟩;simp only[cC];rw[hf x (by simp[Op.operands]),hv];cases v<;>try rfl
   simp only;split
   ·rename_i e hu;exact absurd hu (cL rfl e)
   ·rfl
  split at h
  ·rename_i hx;split at h
   ·rename_i e hu;split at h
    ·rename_i er;obtain⟨f',m',hn,hk,uE,xj,uA⟩:=dX h;refine⟨_,_,_,_,hk,.make xj (fun _ f2 m2 hf hs R' k'=>?_) fun w0 μ φ a w hR=>?_⟩
     ·simp only[cC];rw[hf x (by simp[Op.operands]),hx];simp only[hu,er,T1,fresh,hs]
     ·have h1:=(ak hR x).1;rw[hx]at h1;obtain⟨φ',a1,a2,a3⟩:=uA E.P E.aH w0 μ φ w w _ (BI none 0 0 (aR E.P e)) hR.toaw hR.kc ⟨kv.refl _ _,hR.ro,fun _ _ _ _ _=>rfl,by simp,fun φ' hp _=>by refine⟨by rw[hp];rfl,by rw[hp],rfl,er,by simp,by rw[hp];simp[maxLen],?_⟩;rw[hp];exact⟨rfl,rfl⟩,by simp[bF.names],fun st h=>by cases h⟩;refine⟨.slice none 0 0,w,μ,φ',?_,a2,a3,.q6 (by rw[a1]),fun id an=>?_⟩
      ·simp only[execOp,Sem.run_pure];generalize a.eval x=y at h1;cases h1;rfl
      ·have an:=IT an;subst an;simp[uE]
    ·cases h
   ·rename_i hu;exact mk hx (fun _ e he=>hu e he) h
  ·rename_i hx;exact mk rfl (fun he=>absurd he hx) h
 case alloc t=>
  split at h
  ·rename_i cs hz;obtain⟨i,zv,z1,z2,z3,z4,z5,z6,z7,z8⟩:=eu hz;cases Fh:E.zO site with
   |true=>
    rw[Fh]at h;simp only[cond_true]at h;split at h
    ·rename_i n e ps hu ou;split at h
     ·rename_i hcc;obtain⟨ha,hl,er,aeA⟩:=hcc;obtain⟨f',m',hn,hk,uE,xj,uA⟩:=dX h;obtain⟨q1,q2⟩:=gz ou;have sC:(ff (aR E.P e) n (.agg ps)).length=n:=by simp[ff]
      refine⟨_,_,_,_,hk,.make xj (fun _ f2 m2 hf hs R' k'=>by simp only[cC,hz,Fh,hu,ou,cond_true];rw[BY ⟨ha,hl,er,aeA⟩];simp only[fresh,hs]) fun w0 μ φ a w hR=>?_⟩;have mQ:af E.P μ (.agg ps) (.agg zv.cells):=.agg (by omega) (fun i p x hp hx=>by obtain⟨v,hv,hpo⟩:=q2 i p hp;have:=z7 μ φ i v x hv hx;cases v<;>simp[pvO]at hpo;subst hpo;cases this with|pv h=>exact h) z8;have hC:Cells E.P μ (aR E.P e) (ff (aR E.P e) n (.agg ps)) (zv.cells.toList.take ((ff (aR E.P e) n (.agg ps)).length*aR E.P e)):=by
       refine⟨by rw[sC];simp;omega,fun i e' Q0=>?_,fun i e' j p y hi hj hy=>?_,fun i y hy=>z8 i y (by simpa using(eC hy).2)⟩
       ·obtain⟨_,rfl⟩:=xJ Q0;exact rN
       ·obtain⟨x',x1,x2,_⟩:=Fk (k:=i*aR E.P e+j) mQ (by omega) hi hj rfl;have:=(eC hy).2;rw[agR,x1]at this;cases this;exact x2
      obtain⟨φ',a1,a2,a3⟩:=uA E.P E.aH w0 μ φ w _ _ (BI (some w.heap.size) n (ff (aR E.P e) n (.agg ps)).length (aR E.P e)) hR.toaw hR.kc (kq.alloc (o:=.cells zv.cells t) hR.toaw rfl (fun φ' hp _=>aK.nR (g:=w.heap.size) (by rw[hp]) rfl er (by rw[hp];simp only[maxLen,BI];omega) (fp w _) (by rw[hp];simp only[BI];omega) (by rw[hp,sC];exact agM _) hC) (by simp[bF.names]));refine⟨.pointer (some ⟨w.heap.size,0,none⟩),w.alloc (.cells zv.cells t),μ,φ',by simp[execOp,Ac z1 z2],a2,a3,?_,fun id an=>?_⟩
      ·have:=ae.oe (P:=E.P) (μ:=μ) (φ:=φ') (id:=site) (i:=0) (off:=0) (g:=w.heap.size) (by rw[a1]);simpa using this
      ·have an:=IT an;subst an;simp[uE]
     ·cases h
    ·cases h
   |false=>
   rw[Fh]at h;simp only[cond_false]at h;split at h
   ·rename_i LM;have hdf:draw=false:=by simp only[T2,agS]at LM;exact LM.1
    obtain⟨F,m1,g1,g2⟩:=tD h;obtain⟨f',m',hn,hk,uE,xj,uA⟩:=dX g1;refine⟨_,_,_,_,hk,⟨fun hd=>(by rw[hdf]at hd;cases hd),fun _ h=>(by have:=h (true,site) (by simp);cases this),fun w0 μ φ a w K Q hR hK=>?_⟩⟩;have x1:cs.length=zv.cells.size:=by omega
    have x2:=z7 μ φ;have x3:=z8;have hF0:bX E.P μ φ m (uj cs.length cs f) (fun t=>if t<cs.length then zv.cells.getD t undef else ax E.fn.ntmps w0 a (t-cs.length)):=by
     refine⟨fun t=>?_,fun t id an=>?_⟩
     ·unfold uj;by_cases ht:t<cs.length
      ·rw[show Nat.blt t cs.length=true by rw[ahC];exact ht,BY ht];show ae E.P μ φ (cs.getD t .top) _;have hx:t<zv.cells.size:=by omega
       rw[show cs.getD t .top=cs[t] by simp[List.getD,ht],show zv.cells.getD t undef=zv.cells[t] by simp[Array.getD,hx]];exact x2 t _ _ (AS ht) (OF hx)
      ·rw[show Nat.blt t cs.length=false by rw[←ahM,ahC];exact ht,IN ht];exact hR.kc.fr _
     ·unfold uj at an;cases e:Nat.blt t cs.length with
      |true=>
       rw[e]at an;have ht:t<cs.length:=by rwa[ahC]at e
       have an:(cs.getD t .top).has id=true:=an;rw[show cs.getD t .top=cs[t] by simp[List.getD,ht]]at an;exact absurd (bI (agQ ht) an) (by rw[z6];simp)
      |false=>rw[e]at an;exact hR.kc.live _ id an
    obtain⟨φ1,tx,BK⟩:=g2 E.aH w0 μ φ w _ hR.toaw hF0;have V8:bX E.P μ φ1 m1 (uI cs.length F) (ax E.fn.ntmps w0 a):=by refine⟨fun t=>?_,fun t id an=>BK.live _ id an⟩;have:=BK.fr (t+cs.length);rw[IN (by omega),ah1]at this;exact this
    have Sf:∀(i:Nat)u y,((List.range cs.length).map F)[i]?=some u→zv.cells[i]?=some y→ae E.P μ φ1 u y:=fun i u y hu hy=>by
     have hi:i<cs.length:=by have:=(HO.1 hu).1;simpa using this
     have pT:F i=u:=by simpa[hi]using hu
     have:=BK.fr i;rw[BY hi,pT,show zv.cells.getD i undef=y by simp[agN,hy]]at this;exact this
    obtain⟨φ',a1,a2,a3⟩:=uA E.P E.aH w0 μ φ1 w _ _ _ tx V8 (kq.box (T:=t) tx (c:=zv.cells) (by simp;omega) Sf x3 (fun id an=>by obtain⟨u,hu,hh⟩:=cF.1 an;obtain⟨i,_,rfl⟩:=agZ.1 hu;exact BK.live i id hh));refine fA (y:=.pointer (some ⟨w.heap.size,0,none⟩)) (w':=w.alloc (.cells zv.cells t)) (by simp[execOp,Ac z1 z2]) (hK _ _ μ φ' a2 a3 (.op (by rw[a1])) fun id an=>?_);have an:=IT an;subst an;simp[uE]
   rename_i LM;have h:fresh draw site (.box cs) f m (fun f m ft=>k (.op site 0) f m ft)=some r:=h;obtain⟨f',m',hn,hk,uE,xj,uA⟩:=dX h;refine⟨_,_,_,_,hk,.make xj (fun _ f2 m2 hf hs R' k'=>by simp only[cC,hz,Fh,cond_false,fresh,hs,afj,aiy,AT,Xq]) fun w0 μ φ a w hR=>?_⟩;obtain⟨φ',a1,a2,a3⟩:=uA E.P E.aH w0 μ φ w _ _ _ hR.toaw hR.kc (kq.box (T:=t) hR.toaw (c:=zv.cells) (by omega) (z7 μ φ) z8 (fun id an=>by rw[z6]at an;cases an));refine⟨.pointer (some ⟨w.heap.size,0,none⟩),w.alloc (.cells zv.cells t),μ,φ',by simp[execOp,Ac z1 z2],a2,a3,.op (by rw[a1]),fun id an=>?_⟩;have an:=IT an;subst an;simp[uE]
  ·cases h
 case box t x=>
  split at h
  ·rename_i cs hc;obtain⟨n1,n2,n3⟩:=toCells_ok hc;split at h
   ·rename_i LM;have hdf:draw=false:=by simp only[T2,agS]at LM;exact LM.1
    split at h
    ·rename_i ts hts;split at h
     ·rename_i hlen;obtain⟨F,m1,g1,g2⟩:=tD h;obtain⟨f',m',hn,hk,uE,xj,uA⟩:=dX g1;refine⟨_,_,_,_,hk,⟨fun hd=>(by rw[hdf]at hd;cases hd),fun _ h=>(by have:=h (true,site) (by simp);cases this),fun w0 μ φ a w K Q hR hK=>?_⟩⟩;obtain⟨h1,h2⟩:=ak hR x;obtain⟨x1,x2,x3⟩:=n3 _ _ _ _ h1;have hF0:bX E.P μ φ m (uj cs.length cs f) (fun t=>if t<cs.length then(a.eval x).cells.getD t undef else ax E.fn.ntmps w0 a (t-cs.length)):=by
       refine⟨fun t=>?_,fun t id an=>?_⟩
       ·unfold uj;by_cases ht:t<cs.length
        ·rw[show Nat.blt t cs.length=true by rw[ahC];exact ht,BY ht];show ae E.P μ φ (cs.getD t .top) _;have hx:t<(a.eval x).cells.size:=by omega
         rw[show cs.getD t .top=cs[t] by simp[List.getD,ht],show(a.eval x).cells.getD t undef=(a.eval x).cells[t] by simp[Array.getD,hx]];exact x2 t _ _ (AS ht) (OF hx)
        ·rw[show Nat.blt t cs.length=false by rw[←ahM,ahC];exact ht,IN ht];exact hR.kc.fr _
       ·unfold uj at an;cases e:Nat.blt t cs.length with
        |true=>
         rw[e]at an;have ht:t<cs.length:=by rwa[ahC]at e
         have an:(cs.getD t .top).has id=true:=an;rw[show cs.getD t .top=cs[t] by simp[List.getD,ht]]at an;exact h2 id (n2 id (bI (agQ ht) an))
        |false=>rw[e]at an;exact hR.kc.live _ id an
      obtain⟨φ1,tx,BK⟩:=g2 E.aH w0 μ φ w _ hR.toaw hF0;have V8:bX E.P μ φ1 m1 (uI cs.length F) (ax E.fn.ntmps w0 a):=by refine⟨fun t=>?_,fun t id an=>BK.live _ id an⟩;have:=BK.fr (t+cs.length);rw[IN (by omega),ah1]at this;exact this
      have Sf:∀(i:Nat)u y,((List.range cs.length).map F)[i]?=some u→(a.eval x).cells[i]?=some y→ae E.P μ φ1 u y:=fun i u y hu hy=>by
       have hi:i<cs.length:=by have:=(HO.1 hu).1;simpa using this
       have pT:F i=u:=by simpa[hi]using hu
       have:=BK.fr i;rw[BY hi,pT,show(a.eval x).cells.getD i undef=y by simp[agN,hy]]at this;exact this
      obtain⟨φ',a1,a2,a3⟩:=uA E.P E.aH w0 μ φ1 w _ _ _ tx V8 (kq.box (T:=t) tx (c:=(a.eval x).cells) (by simp;omega) Sf x3 (fun id an=>by obtain⟨u,hu,hh⟩:=cF.1 an;obtain⟨i,_,rfl⟩:=agZ.1 hu;exact BK.live i id hh));refine fA (y:=.pointer (some ⟨w.heap.size,0,none⟩)) (w':=w.alloc (.cells (a.eval x).cells t)) (by simp[execOp,Pp]) (hK _ _ μ φ' a2 a3 (.op (by rw[a1])) fun id an=>?_);have an:=IT an;subst an;simp[uE]
     ·cases h
    ·cases h
   rename_i LM;have h:fresh draw site (.box cs) f m (fun f m ft=>k (.op site 0) f m ft)=some r:=h;have LM:draw=true→(!true&&cs.any Sx)=false:=fun _=>rfl;obtain⟨f',m',hn,hk,uE,xj,uA⟩:=dX h;refine⟨_,_,_,_,hk,.make xj (fun _ f2 m2 hf hs R' k'=>by simp only[cC];rw[hf x (by simp[Op.operands])];simp only[hc,fresh,hs,afj,aiy,AT,Xq]) fun w0 μ φ a w hR=>?_⟩;obtain⟨h1,h2⟩:=ak hR x;obtain⟨x1,x2,x3⟩:=n3 _ _ _ _ h1;obtain⟨φ',a1,a2,a3⟩:=uA E.P E.aH w0 μ φ w _ _ _ hR.toaw hR.kc (kq.box (T:=t) hR.toaw (c:=(a.eval x).cells) (by omega) x2 x3 (fun id an=>h2 id (n2 id an)));refine⟨.pointer (some ⟨w.heap.size,0,none⟩),w.alloc (.cells (a.eval x).cells t),μ,φ',by simp[execOp,Pp],a2,a3,.op (by rw[a1]),fun id an=>?_⟩;have an:=IT an;subst an;simp[uE]
  ·cases h
 case build t parts=>obtain⟨v,v1,v2,v3,v4⟩:=QP h;have LJ:∀f2:Fr,(∀x∈(Op.build t parts).operands,bA E f2 x=bA E f x)→(parts.toList.map fun(x:Nat×Operand)=>(x.1,bA E f2 x.2))=parts.toList.map fun(x:Nat×Operand)=>(x.1,bA E f x.2):=fun f2 hf=>ru fun x hx=>hf x.2 (by simp only[Op.operands,aiA,agZ];exact⟨x,hx,rfl⟩);refine⟨_,_,_,_,v2,.read (fun f2 m2 hf _ R' k'=>by simp only[cC];rw[LJ f2 hf];exact v1 _ _) fun w0 μ φ a w hR=>?_⟩;obtain⟨z,z1,z2⟩:=v4 μ φ w (parts.map fun(i,x)=>(i,a.eval x)) (by simp) (fun j i v hj=>by simp only[IS,aaO]at hj;obtain⟨y,hy,he⟩:=hj;simp only[Xp]at he;obtain⟨rfl,rfl⟩:=he;refine⟨a.eval y.2,?_,(ak hR y.2).1⟩;rw[ajd,←agR,hy];rfl);refine⟨z,by simp only[execOp,Sem.run_bind,z1,Result.andThen_ok,Sem.run_pure],z2,fun id an=>?_⟩;have h5:=v3 id an;rw[aiK]at h5;obtain⟨u,hu,hh⟩:=cF.1 h5;obtain⟨y,hy,rfl⟩:=agZ.1 hu;exact(ak hR y.2).2 id hh
 case load t x=>obtain⟨v,ft,v1,v2,v3,v4⟩:=Ir h;refine⟨_,_,_,_,v2,.read (fun f2 m2 hf hm R' k'=>by simp only[cC];rw[hf x (by simp[Op.operands])];exact v1 m2 hm _ _) fun w0 μ φ a w hR=>?_⟩;obtain⟨y,y1,y2,y3⟩:=v4 _ _ _ _ _ _ hR.toaw (ak hR x).1;exact⟨y,by simp[execOp,y1],y2,y3⟩
 case store t x y=>
  obtain⟨m',ft,k1,k2,k3,k4⟩:=QK h;refine⟨_,_,_,_,k1,⟨fun hd=>?_,fun h _=>by(simp[eZ]at h),fun w0 μ φ a w K Q hR hK=>?_⟩⟩
  ·obtain⟨id,b,rfl,rfl,d3⟩:=k2 hd;refine⟨rfl,[(id,b)],rfl,by simp,fun f2 m2 hf hm R' k'=>?_⟩;simp only[cC];rw[hf x (by simp[Op.operands]),hf y (by simp[Op.operands])];exact d3 m2 (hm (true,id) (by simp)) _ _
  ·obtain⟨w',μ',s1,s2,s3⟩:=k4 _ _ _ _ _ _ _ hR.toaw (ak hR x).1 (ak hR y).1 (ak hR y).2;exact uW (by simp[execOp,s1]) (hK undef w' μ' φ s3 (hR.kc.l0 s2 k3) .top (by simp))
 case nilCheck x=>
  have key:∀{v},bA E f x=v→(∀(μ:Ro)(φ:Nat→aA)y,ae E.P μ φ v y→(∃ad,y=.pointer (some ad))∨∃g xs ys,y=.func (.func g) xs ys)→k v f m []=some r→(∀(R':Type)(k':V→Fr→Mem→bp→Option R')(f2:Fr)(m2:Mem),bA E f2 x=v→cC E true site {dst,op:=.nilCheck x,type,pos,after,guard} f2 m2 k'=k' v f2 m2 [])→∃v f' m' ft,k v f' m' ft=some r∧tC E draw site {dst,op:=.nilCheck x,type,pos,after,guard} f m v f' m' ft:=by
   intro v hv hp hk hn;refine⟨v,f,m,[],hk,.read (fun f2 m2 hf _ R' k'=>hn R' k' f2 m2 (by rw[hf x (by simp[Op.operands]),hv])) fun w0 μ φ a w hR=>?_⟩;obtain⟨h1,h2⟩:=ak hR x;rw[hv]at h1 h2;refine⟨a.eval x,?_,h1,h2⟩;rcases hp μ φ _ h1 with⟨ad,e⟩|⟨g,xs,ys,e⟩
   ·simp only[execOp,e];rfl
   ·simp only[execOp,e];rfl
  split at h
  ·rename_i cs hx;exact key hx (fun μ φ y hy=>by cases hy with|pv hy=>cases hy;exact .inl ⟨_,rfl⟩) h fun R' k' f2 m2 e=>by simp only[cC,e]
  ·rename_i id off hx;exact key hx (fun μ φ y hy=>by cases hy;exact .inl ⟨_,rfl⟩) h fun R' k' f2 m2 e=>by simp only[cC,e]
  ·rename_i id i off hx;exact key hx (fun μ φ y hy=>by cases hy;exact .inl ⟨_,rfl⟩) h fun R' k' f2 m2 e=>by simp only[cC,e]
  ·rename_i id i off s j off2 hx;exact key hx (fun μ φ y hy=>by cases hy;exact .inl ⟨_,rfl⟩) h fun R' k' f2 m2 e=>by simp only[cC,e]
  ·rename_i g cs hx;exact key hx (fun μ φ y hy=>by cases hy;exact .inr (pQ _ _)) h fun R' k' f2 m2 e=>by simp only[cC,e]
  ·rename_i g cs hx;exact key hx (fun μ φ y hy=>by cases hy with|pv hy=>cases hy;exact .inr (pQ _ _)) h fun R' k' f2 m2 e=>by simp only[cC,e]
  ·cases h
 case binOp op t x y ty=>
  have sy:∀(f2:Fr)(m2:Mem)(R':Type)(k':V→Fr→Mem→bp→Option R')(d:Bool),bA E f2 x=bA E f x→bA E f2 y=bA E f y→cC E d site ⟨dst,.binOp op t x y ty,type,pos,after,guard⟩ f2 m2 k'=Ic E op t y (bA E f x) (bA E f y) fun p=>k' (.pv p) f2 m2 []:=by
   intro f2 m2 R' k' d e1 e2;simp only[cC];rw[e1,e2];split
   ·rename_i s es h1 h2;exact absurd h2 (hb op t x y ty s es rfl h1)
   ·rfl
  have h:cC E draw site ⟨dst,.binOp op t x y ty,type,pos,after,guard⟩ f m k=some r:=by simp only[cC];exact h
  rw[sy f m R k draw rfl rfl]at h;obtain⟨q,q1,q2,q3⟩:=Te h;refine⟨_,_,_,_,q2,.read (fun f2 m2 hf hm R' k'=>by rw[sy f2 m2 R' k' true (hf x (by simp[Op.operands])) (hf y (by simp[Op.operands]))];exact q1 _ _) fun w0 μ φ a w hR=>?_⟩;obtain⟨z,z1,z2⟩:=q3 μ φ w x _ _ (fun hn=>by
   unfold Cl at hn;split at hn
   ·rfl
   ·cases hn) (ak hR x).1 (ak hR y).1
  exact⟨z,by simp only[rK]at z1;simp only[execOp,Sem.run_bind,Sem.run_pure]at z1⊢;rw[z1];rfl,.pv z2,by simp⟩
 case unOp op t x=>obtain⟨q,q1,q2,q3⟩:=Zb h;refine⟨_,_,_,_,q2,.read (fun f2 m2 hf hm R' k'=>by simp only[cC];rw[hf x (by simp[Op.operands])];exact q1 _ _) fun w0 μ φ a w hR=>?_⟩;obtain⟨z,z1,z2⟩:=q3 E.P μ φ w _ (ak hR x).1;exact⟨z,by simp[execOp,z1],.pv z2,by simp⟩
 case convert s d x=>obtain⟨q,ft,q1,q2,_,q3⟩:=Q4 h;refine⟨_,_,_,_,q2,.read (fun f2 m2 hf hm R' k'=>by simp only[cC];rw[hf x (by simp[Op.operands])];exact q1 m2 hm _ _) fun w0 μ φ a w hR=>?_⟩;obtain⟨z,z1,z2⟩:=q3 _ _ μ φ w _ hR.toaw (ak hR x).1;exact⟨z,by simp[execOp,z1],.pv z2,by simp⟩
 case fieldAddr s x j=>obtain⟨v,v1,v2,v3,v4⟩:=EA h;refine⟨_,_,_,_,v2,.read (fun f2 m2 hf hm R' k'=>by simp only[cC];rw[hf x (by simp[Op.operands])];exact v1 _ _) fun w0 μ φ a w hR=>?_⟩;obtain⟨z,z1,z2⟩:=v4 μ φ w _ (ak hR x).1;exact⟨z,by simp[execOp,z1],z2,fun id an=>(ak hR x).2 id (by rw[←v3];exact an)⟩
 case field s x j=>obtain⟨v,v1,v2,v3,v4⟩:=QD h;refine⟨_,_,_,_,v2,.read (fun f2 m2 hf hm R' k'=>by simp only[cC];rw[hf x (by simp[Op.operands])];exact v1 _ _) fun w0 μ φ a w hR=>?_⟩;obtain⟨z,z1,z2⟩:=v4 μ φ w _ (ak hR x).1;exact⟨z,by simp[execOp,z1],z2,fun id an=>(ak hR x).2 id (v3 id an)⟩
 case indexAddr t x ix=>obtain⟨v,ft,v1,v2,v3,v4,v5⟩:=EB h;refine⟨_,_,_,_,v2,.read (fun f2 m2 hf hm R' k'=>by simp only[cC];rw[hf x (by simp[Op.operands]),hf ix (by simp[Op.operands])];exact v1 m2 hm _ _) fun w0 μ φ a w hR=>?_⟩;obtain⟨z,z1,z2⟩:=v5 _ _ μ φ w _ _ hR.toaw (ak hR x).1 (ak hR ix).1;exact⟨z,by simp[execOp,z1],z2,fun id an=>(ak hR x).2 id (v4 id an)⟩
 case index t x ix=>obtain⟨v,v1,v2,v3,v4⟩:=QE h;refine⟨_,_,_,_,v2,.read (fun f2 m2 hf hm R' k'=>by simp only[cC];rw[hf x (by simp[Op.operands]),hf ix (by simp[Op.operands])];exact v1 _ _) fun w0 μ φ a w hR=>?_⟩;obtain⟨z,z1,z2⟩:=v4 μ φ w _ _ (ak hR x).1 (ak hR ix).1;exact⟨z,by simp[execOp,z1],z2,fun id an=>(ak hR x).2 id (v3 id an)⟩
 case lookup t x ix ok=>
  split at h
  ·rename_i hn;have Bm:ok=false:=by cases ok<;>simp at hn⊢
   subst Bm;obtain⟨id,b1,b2,m',rfl,hk,hs,tf,XR,an,Iy,Zu⟩:=S5 h;refine⟨_,_,_,_,hk,⟨fun hd=>⟨rfl,[(id,b1),(site,b2)],rfl,by simp,fun f2 m2 hf hm R' k'=>?_⟩,fun _ h=>absurd (h (true,id) (by simp)) (by simp),fun w0 μ φ a w K Q hR hK=>?_⟩⟩
   ·simp only[cC];rw[BY hn,hf x (by simp[Op.operands]),hf ix (by simp[Op.operands])];exact Iy m2 (hm (true,id) (by simp)) (by rw[hm (true,site) (by simp)];exact hs) _ _
   ·obtain⟨u,φ',u1,u2,u3,u4⟩:=Zu _ _ _ _ _ _ _ _ _ hR.toaw hR.kc (ak hR x).1 (ak hR ix).1;exact fA (y:=u) (w':=w) (by simp[execOp,u1]) (hK u w μ φ' u2 u3 u4 fun j hj=>by have hj:=IT hj;subst hj;simp[sj])
  rename_i hn;obtain⟨v,ft,v1,v2,v3,v4,v5⟩:=Lw h;refine⟨_,_,_,_,v2,.read (fun f2 m2 hf hm R' k'=>by simp only[cC];rw[IN hn,hf x (by simp[Op.operands]),hf ix (by simp[Op.operands])];exact v1 m2 hm _ _) fun w0 μ φ a w hR=>?_⟩;obtain⟨z,z1,z2⟩:=v5 _ _ μ φ w _ _ hR.toaw (ak hR x).1 (ak hR ix).1;exact⟨z,by simp[execOp,z1],z2,fun id an=>by rw[v4]at an;cases an⟩
 case mapUpdate t x key val=>
  obtain⟨m',ft,k1,k2,k3,k4⟩:=xm h;refine⟨_,_,_,_,k1,⟨fun hd=>?_,fun h _=>by(simp[eZ]at h),fun w0 μ φ a w K Q hR hK=>?_⟩⟩
  ·obtain⟨id,b,rfl,rfl,d3⟩:=k2 hd;refine⟨rfl,[(id,b)],rfl,by simp,fun f2 m2 hf hm R' k'=>?_⟩;simp only[cC];rw[hf x (by simp[Op.operands]),hf key (by simp[Op.operands]),hf val (by simp[Op.operands])];exact d3 m2 (hm (true,id) (by simp)) _ _
  ·obtain⟨w',μ',s1,s2,s3⟩:=k4 _ _ _ _ _ _ _ _ hR.toaw (ak hR x).1 (ak hR key).1 (ak hR val).1;exact uW (by simp[execOp,s1]) (hK undef w' μ' φ s3 (hR.kc.l0 s2 k3) .top (by simp))
 case insert t x key val=>
  obtain⟨m',ft,k1,k2,k3,k4⟩:=xm h;refine⟨_,_,_,_,k1,⟨fun hd=>?_,fun h _=>by(simp[eZ]at h),fun w0 μ φ a w K Q hR hK=>?_⟩⟩
  ·obtain⟨id,b,rfl,rfl,d3⟩:=k2 hd;refine⟨rfl,[(id,b)],rfl,by simp,fun f2 m2 hf hm R' k'=>?_⟩;simp only[cC];rw[hf x (by simp[Op.operands]),hf key (by simp[Op.operands]),hf val (by simp[Op.operands])];exact d3 m2 (hm (true,id) (by simp)) _ _
  ·obtain⟨w',μ',s1,s2,s3⟩:=k4 _ _ _ _ _ _ _ _ hR.toaw (ak hR x).1 (ak hR key).1 (ak hR val).1;exact uW (by simp[execOp,s1]) (hK undef w' μ' φ s3 (hR.kc.l0 s2 k3) .top (by simp))
 case extract t i=>
  split at h
  ·rename_i vs hx;split at h
   ·rename_i v hv;refine⟨_,_,_,_,h,.read (fun f2 m2 hf hm R' k'=>by simp only[cC];rw[hf t (by simp[Op.operands]),hx];simp only[hv]) fun w0 μ φ a w hR=>?_⟩;obtain⟨h1,h2⟩:=ak hR t;rw[hx]at h1 h2;generalize hy:a.eval t=y at h1;cases h1 with
    | @bn _ xs t1 t2=>
     have bS:i<xs.size:=by have:=(HO.1 hv).1;omega
     refine⟨xs[i],by simp[execOp,hy,Instr.extract,bS],t2 i v _ hv (OF bS),fun id an=>h2 id (by simp only[V.has];exact bI (aaQ hv) an)⟩
   ·cases h
  ·cases h
 case makeSlice t l c=>
  obtain⟨f',m',b,hd,hk,uE,hs⟩:=EG h;refine⟨_,_,_,_,hk,.make (fun xj=>⟨(hd xj).1,(hd xj).2.1,(hd xj).2.2.1⟩) (fun xj f2 m2 hf hs' R' k'=>?_) fun w0 μ φ a w hR=>?_⟩
  ·simp only[cC];rw[hf l (by simp[Op.operands]),hf c (by simp[Op.operands])];exact(hd xj).2.2.2 f2 m2 hs' _ _
  ·obtain⟨w',y,φ',r1,r2,r3,r4⟩:=hs _ w0 μ φ w (ax E.fn.ntmps w0 a) _ _ hR.toaw hR.kc (ak hR l).1 (ak hR c).1;refine⟨y,w',μ,φ',by simp[execOp,r1],r2,r3,r4,fun id an=>?_⟩;have an:=IT an;subst an;exact uE
 case makeMap t hint=>
  split at h
  ·rename_i hh;split at h
   ·rename_i kt et hu;split at h
    ·rename_i hk;obtain⟨ks,SL⟩:=agT.1 hk;have Iy:∀f2:Fr,(∀x∈(Op.makeMap t hint).operands,bA E f2 x=bA E f x)→GA E f2 hint=true:=fun f2 hf=>by
      cases hint with
      |none=>rfl
      |some x=>simp only[GA]at hh⊢;rw[hf x (by simp[Op.operands])];exact hh
     have mk:∀b:bF,(∀i off,b.rowAt i off=true→False)→(∀(μ:Ro)(φ':Nat→aA)(w:World),(φ' site).g=some w.heap.size→gm E.P μ φ' (w.alloc (.map #[] 0)) site b)→(∀id,b.names id=false)→(∀st,b≠.loop st)→fresh draw site b f m (fun f m ft=>k (.om site) f m ft)=some r→(∀(f2:Fr)(m2:Mem),(∀x∈(Op.makeMap t hint).operands,bA E f2 x=bA E f x)→m2 site=none→∀(R':Type)(k':V→Fr→Mem→bp→Option R'),cC E true site ⟨dst,.makeMap t hint,type,pos,after,guard⟩ f2 m2 k'=k' (.om site) f2 (al m2 site b) [(true,site)])→∃v f' m' ft,k v f' m' ft=some r∧tC E draw site ⟨dst,.makeMap t hint,type,pos,after,guard⟩ f m v f' m' ft:=by
      intro b KX jI hnm Zc h SF;obtain⟨f',m',hn,qd,uE,xj,uA⟩:=dX h KX;refine⟨_,_,_,_,qd,.make xj (fun _ f2 m2 hf hs R' k'=>SF f2 m2 hf hs R' k') fun w0 μ φ a w hR=>?_⟩;obtain⟨φ',a1,a2,a3⟩:=uA E.P E.aH w0 μ φ w _ _ (BI (some w.heap.size) 0 0 0) hR.toaw hR.kc (kq.alloc (o:=.map #[] 0) hR.toaw rfl (fun φ' hp _=>jI _ _ _ (by rw[hp])) (fun id an=>by rw[hnm]at an;cases an) (fun st h=>absurd h (Zc st)));have ow:(Instr.makeMap t (hint.map a.eval)).run E.P w=.ok (.map (some w.heap.size)) (w.alloc (.map #[] 0)):=by
       cases hint with
       |none=>rfl
       |some x=>
        have h1:=(ak hR x).1;simp only[GA]at hh;split at hh
        ·rename_i q n hx;rw[hx]at h1;generalize hy:a.eval x=y at h1;cases h1 with
         |pv h1=>cases h1;simp[Instr.makeMap,hy,run_underlying hu,Go.asInt,asIntOf,newObj];rfl
        ·cases hh
      refine⟨.map (some w.heap.size),w.alloc (.map #[] 0),μ,φ',by simp only[execOp,Sem.run_bind,ow];rfl,a2,a3,.om (by rw[a1]),fun id an=>?_⟩;have an:=IT an;subst an;simp[uE]
     split at h
     ·rename_i Zv;split at h
      ·rename_i e hue;exact mk (.eY kt e []) (fun i off h=>by cases off<;>simp[bF.rowAt]at h) (fun μ φ' w hg=>⟨w.heap.size,#[],0,ks,hg,fp w _,rfl,SL,by simp,fun i e h=>by simp at h,by simp⟩) (fun _=>rfl) (fun st h=>by cases h) h fun f2 m2 hf hs R' k'=>by simp only[cC,Iy f2 hf,hu,hk,fresh,hs,T1,Zv,hue]
      ·cases h
     ·rename_i Zv;exact mk (.map kt []) (fun i off h=>by simp[bF.rowAt]at h) (fun μ φ' w hg=>Iz SL hg) (fun _=>rfl) (fun st h=>by cases h) h fun f2 m2 hf hs R' k'=>by simp only[cC,Iy f2 hf,hu,hk,fresh,hs,T1];rw[IN Zv]
    ·cases h
   ·cases h
  ·cases h
 case makeFunc fn first caps=>
  cases fn<;>simp only at h;case func g=>
   cases S9:Nat.blt g Cj with
   |false=>rw[S9]at h;cases h
   |true=>
   rw[S9]at h;simp only[cond_true]at h;split at h
   ·rename_i Zw;have hf0:first= #[]:=by simpa using Zw
    subst hf0;refine⟨_,_,_,_,h,.read (fun f2 m2 hf hm R' k'=>?_) fun w0 μ φ a w hR=>⟨.func (.func g) #[] (caps.map a.eval),by simp[execOp,Instr.makeFunc],by rw[←pP S9];exact .fn (kJ hR).1 (kJ hR).2,fun id an=>pz hR (by simpa only[V.has]using an)⟩⟩;simp only[cC,S9,cond_true];rw[BY (by simp),nK fun x hx=>hf x (by simpa[Op.operands]using hx)]
   ·rename_i Zw;split at h
    ·rename_i hcp;have XU:caps= #[]:=by simpa using hcp
     subst XU;refine⟨_,_,_,_,h,.read (fun f2 m2 hf hm R' k'=>?_) fun w0 μ φ a w hR=>⟨.func (.func g) (first.map a.eval) #[],by simp[execOp,Instr.makeFunc],by rw[←Th];exact .fn (kJ hR).1 (kJ hR).2,fun id an=>pz hR (by simpa only[V.has]using an)⟩⟩;simp only[cC,S9,cond_true];rw[IN Zw,BY (by simp),nK fun x hx=>hf x (by simpa[Op.operands]using hx)]
    ·cases h
  all_goals (cases h)
 case slice t x lo hi mx=>
  obtain⟨v,ft,v1,v2,v3,v4,v6⟩:=QF h;have hlo:∀f2:Fr,(∀y∈(Op.slice t x lo hi mx).operands,bA E f2 y=bA E f y)→lo.map (bA E f2)=lo.map (bA E f)∧hi.map (bA E f2)=hi.map (bA E f)∧mx.map (bA E f2)=mx.map (bA E f):=fun f2 hf=>by
   refine⟨?_,?_,?_⟩
   ·cases lo with
    |none=>rfl
    |some y=>simp only[adN];rw[hf y (by simp[Op.operands])]
   ·cases hi with
    |none=>rfl
    |some y=>simp only[adN];rw[hf y (by simp[Op.operands])]
   ·cases mx with
    |none=>rfl
    |some y=>simp only[adN];rw[hf y (by simp[Op.operands])]
  refine⟨_,_,_,_,v2,.read (fun f2 m2 hf hm R' k'=>by simp only[cC];rw[hf x (by simp[Op.operands]),(hlo f2 hf).1,(hlo f2 hf).2.1,(hlo f2 hf).2.2];exact v1 m2 hm _ _) fun w0 μ φ a w hR=>?_⟩;obtain⟨z,z1,z2⟩:=v6 _ _ μ φ w (a.eval x) (lo.map a.eval) (hi.map a.eval) (mx.map a.eval) hR.toaw (ak hR x).1 (fun v hv=>by
   obtain⟨y,rfl,rfl⟩:=aaO.1 hv;exact⟨_,rfl,(ak hR y).1⟩) (fun hv=>by cases lo<;>simp at hv⊢) (fun v hv=>by
   obtain⟨y,rfl,rfl⟩:=aaO.1 hv;exact⟨_,rfl,(ak hR y).1⟩) (fun hv=>by cases hi<;>simp at hv⊢) (fun v hv=>by
   obtain⟨y,rfl,rfl⟩:=aaO.1 hv;exact⟨_,rfl,(ak hR y).1⟩) (fun hv=>by cases mx<;>simp at hv⊢)
  exact⟨z,by simp[execOp,z1],z2,fun id an=>(ak hR x).2 id (v4 id an)⟩
 case buildSlice t len parts=>
  split at h
  ·rename_i e hu;split at h
   ·rename_i Sa;split at h
    ·rename_i cs mQ;split at h
     ·rename_i hc;obtain⟨hlen,sy,Ag,Lr⟩:=hc;obtain⟨zc,Se⟩:=agT.1 Lr;obtain⟨iz,zv,z1,z2,z3,_⟩:=eu Se;obtain⟨p1,p2,p3⟩:=Fq mQ;obtain⟨f',m',hn,hk,uE,xj,uA⟩:=dX h;refine⟨_,_,_,_,hk,.make (b:=.box cs) xj (fun _ f2 m2 hf hs R' k'=>by have LJ:(parts.toList.map fun(x:Nat×Operand)=>(x.1,bA E f2 x.2))=parts.toList.map fun(x:Nat×Operand)=>(x.1,bA E f x.2):=ru fun x hx=>hf x.2 (by simp only[Op.operands,aiA,agZ];exact⟨x,hx,rfl⟩);simp only[cC,hu,Sa,T1];rw[LJ];simp only[mQ];rw[BY ⟨hlen,sy,Ag,Lr⟩];simp only[fresh,hs]) fun w0 μ φ a w hR=>?_⟩;have B6:parts.toList.length=len:=by rw[←hlen];simp
      have sC:cs.length=len:=by rw[p1];simp[←B6]
      have IG:∃c0:Array Value,c0.size=0+parts.toList.length∧∀cells,Instr.fill (fun i=>some (i*1,1)) c0 (parts.map fun(i,x)=>(i,a.eval x)).toList=some cells→(Instr.buildSlice t len (parts.map fun(i,x)=>(i,a.eval x))).run E.P w=.ok (.slice (some ⟨w.heap.size,0,none⟩) len len) (w.alloc (.cells cells e)):=by
       by_cases h0:len*aR E.P e=0
       ·have KZ:len=0:=by rw[sy]at h0;omega
        refine⟨#[],by simp[B6,KZ],fun cells hf=>?_⟩;subst KZ;have GJ:parts= #[]:=by apply aif;simpa using afl B6
        subst GJ;have hf':cells= #[]:=by simpa[Instr.fill]using hf.symm
        subst hf';simp[Instr.buildSlice,run_underlying hu,sizeOf,typeInfo,z1,newRow,Instr.fill,Array.range_zero']
       ·refine⟨(Array.range (len*aR E.P e)).map (zv.cells[·%zv.cells.size]!),by simp[B6,sy],fun cells hf=>?_⟩;exact run_buildSlice w t e len _ cells iz zv hu z1 z2 (by rw[z3,sy];omega) (by rw[z3];exact h0) (by rw[z3];simp only[sy]at hf⊢;exact hf)
      obtain⟨c0,c1,c2⟩:=IG;obtain⟨c',d1,d2,d3,d4⟩:=p3 E.P μ φ (parts.map fun(i,x)=>(i,a.eval x)).toList c0 (by simp) (fun j i v hj=>by simp only[IS,aaO]at hj;obtain⟨y,hy,he⟩:=hj;simp only[Xp]at he;obtain⟨rfl,rfl⟩:=he;exact⟨a.eval y.2,by simp[hy],(ak hR y.2).1⟩) (by rw[c1];simp);have mP:c'.size=cs.length:=by rw[d2,c1,sC];omega
      have eH:∀(i:Nat)u y,cs[i]?=some u→c'[i]?=some y→ae E.P μ φ u y∧y.oneCell'=true:=fun i u y hu hy=>by obtain⟨z,e1,e2,e3⟩:=d4 i u hu;rw[ahp,hy]at e1;cases e1;exact⟨e2,e3⟩
      obtain⟨φ',a1,a2,a3⟩:=uA E.P E.aH w0 μ φ w (w.alloc (.cells c' e)) _ (BI (some w.heap.size) len cs.length 1) hR.toaw hR.kc (kq.alloc (o:=.cells c' e) hR.toaw rfl (fun φ' hp QI=>⟨w.heap.size,c',e,by rw[hp],fp w _,mP,fun i u y hu hy=>(eH i u y hu hy).1.mono (fun _ _ h=>h) fun id an=>QI id (bI (aaQ hu) an),fun i y hy=>by
       have bS:=(YH.1 hy).1;have hu:cs[i]?=some (cs[i]'(by omega)):=AS (by omega);exact(eH i _ y hu hy).2,by rw[hp]⟩) (fun id an=>by
       have h5:=p2 id an;rw[aiK]at h5;obtain⟨u,hu,hh⟩:=cF.1 h5;obtain⟨y,hy,rfl⟩:=agZ.1 hu;exact(ak hR y.2).2 id hh))
      refine⟨.slice (some ⟨w.heap.size,0,none⟩) len len,w.alloc (.cells c' e),μ,φ',by simp only[execOp,Sem.run_bind,c2 c' d1,Result.andThen_ok,Sem.run_pure],a2,a3,?_,fun id an=>?_⟩
      ·have:=ae.os (P:=E.P) (μ:=μ) (φ:=φ') (id:=site) (g:=w.heap.size) (by rw[a1]);rw[a1,sC]at this;exact this
      ·have an:=IT an;subst an;simp[uE]
     ·cases h
    ·cases h
   rename_i aeB;have hnf:Pb E e=false:=by simpa using aeB
   split at h
   ·rename_i hfz;split at h
    ·rename_i es m1 EI;split at h
     ·rename_i hc;obtain⟨hlen,er,Ag,Lr⟩:=hc;obtain⟨zc,Se⟩:=agT.1 Lr;obtain⟨iz,zv,z1,z2,z3,_⟩:=eu Se;have Zx:=(qj EI).2 m;obtain⟨p1,p2,p3⟩:=rO Zx;refine⟨_,_,_,_,h,⟨fun hd=>⟨rfl,[],rfl,by simp,fun f2 m2 hf _ R' k'=>?_⟩,fun _ _=>⟨rfl,rfl⟩,fun w0 μ φ a w K Q hR hK=>?_⟩⟩
      ·have LJ:(parts.toList.map fun(x:Nat×Operand)=>(x.1,bA E f2 x.2))=parts.toList.map fun(x:Nat×Operand)=>(x.1,bA E f x.2):=ru fun x hx=>hf x.2 (by simp only[Op.operands,aiA,agZ];exact⟨x,hx,rfl⟩);simp only[cC,hu,hnf,AT,Xq,hfz,T1];rw[LJ];simp only[EI];rw[BY ⟨hlen,er,Ag,Lr⟩];rfl
      have B6:parts.toList.length=len:=by rw[←hlen,p2];simp
      have IG:∃c0:Array Value,c0.size=(0+parts.toList.length)*aR E.P e∧∀cells,Instr.fill (fun i=>some (i*aR E.P e,aR E.P e)) c0 (parts.map fun(i,x)=>(i,a.eval x)).toList=some cells→(Instr.buildSlice t len (parts.map fun(i,x)=>(i,a.eval x))).run E.P w=.ok (.slice (some ⟨w.heap.size,0,none⟩) len len) (w.alloc (.cells cells e)):=by
       by_cases h0:len*aR E.P e=0
       ·have KZ:len=0:=by rcases Nat.mul_eq_zero.1 h0 with h|h<;>omega
        refine⟨#[],by simp[B6,KZ],fun cells hf=>?_⟩;subst KZ;have GJ:parts= #[]:=by apply aif;simpa using afl B6
        subst GJ;have hf':cells= #[]:=by simpa[Instr.fill]using hf.symm
        subst hf';simp[Instr.buildSlice,run_underlying hu,sizeOf,typeInfo,z1,newRow,Instr.fill,Array.range_zero']
       ·refine⟨(Array.range (len*aR E.P e)).map (zv.cells[·%zv.cells.size]!),by simp[B6],fun cells hf=>?_⟩;exact run_buildSlice w t e len _ cells iz zv hu z1 z2 (by rw[z3];omega) (by rw[z3];exact h0) (by rw[z3];exact hf)
      obtain⟨c0,c1,c2⟩:=IG;obtain⟨μ',c',d1,d2,d3,d4,d5⟩:=p3 E.P E.aH w0 μ φ w (parts.map fun(i,x)=>(i,a.eval x)).toList [] c0 hR.toaw (by simp) (fun j i v hj=>by simp only[IS,aaO]at hj;obtain⟨y,hy,he⟩:=hj;simp only[Xp]at he;obtain⟨rfl,rfl⟩:=he;exact⟨a.eval y.2,by simp[hy],(ak hR y.2).1⟩) rfl (by simpa using c1) (by simpa using Cells.nil);simp only[ah9]at d5;have hb:kv w.heap.size w (w.alloc (.cells c' e)):=(kv.refl _ w).alloc (agM _) _;have hA:aK E.P μ' (fun _=>BI (some w.heap.size) len es.length (aR E.P e)) (w.alloc (.cells c' e)) 0 (aR E.P e) e es:=aK.nR (g:=w.heap.size) rfl rfl er (by simp only[maxLen,BI];have:len*1≤len*aR E.P e:=ah7 _ er;omega) (fp w _) (by simp only[BI];rw[d4];simp[←B6]) (by simp only[BI];omega) (by have h1:=d5.len;rw[ahx (by rw[h1];exact agM _)];exact d5);have Fx:=j7 d2 (w.alloc (.cells c' e));have hV:=hA.GL (g:=w.heap.size) rfl (lo:=0) (len:=len) (by omega) (cap:=len) (by simp only[BI];omega) (agM _) Fx (by simp[cu]);rw[ajX,ajN,ahx (by omega)]at hV;exact fA (by simp only[execOp,Sem.run_bind,c2 c' d3,Result.andThen_ok,Sem.run_pure]) (hK _ _ _ φ (d2.called hb) ((hR.kc.l0 d1 p1).l0 Fx (.refl _)) (.pv hV) (fun id an=>by cases an))
     ·cases h
    ·cases h
   rename_i aeC;split at h
   ·rename_i es m1 EI;split at h
    ·rename_i hc;obtain⟨hlen,er,Ag,Lr⟩:=hc;obtain⟨zc,Se⟩:=agT.1 Lr;obtain⟨iz,zv,z1,z2,z3,_⟩:=eu Se;have VC:∃mm,mm=(if draw then m else m1)∧eR m (aR E.P e) (ay E.P e) 0 (parts.toList.map fun(i,x)=>(i,bA E f x))=some (es,mm):=by
      cases draw with
      |true=>exact⟨m,rfl,(qj EI).2 m⟩
      |false=>exact⟨m1,rfl,EI⟩
     obtain⟨mm,hme,Zx⟩:=VC;rw[←hme]at h;obtain⟨p1,p2,p3⟩:=rO Zx;obtain⟨f',m',hn,hk,uE,xj,uA⟩:=dX h;refine⟨_,_,_,_,hk,.make (b:=.arr (aR E.P e) e es) (fun hd=>by
      have:=xj hd;rw[hd]at hme;simp only[T1]at hme;rw[hme]at this;exact this) (fun hd f2 m2 hf hs R' k'=>by
      subst hd;have LJ:(parts.toList.map fun(x:Nat×Operand)=>(x.1,bA E f2 x.2))=parts.toList.map fun(x:Nat×Operand)=>(x.1,bA E f x.2):=ru fun x hx=>hf x.2 (by simp only[Op.operands,aiA,agZ];exact⟨x,hx,rfl⟩);simp only[cC,hu,hnf,AT,Xq,aeC,T1];rw[LJ];simp only[T1]at EI;simp only[EI];rw[BY ⟨hlen,er,Ag,Lr⟩];simp only[fresh,hs]) fun w0 μ φ a w hR=>?_⟩
     have B6:parts.toList.length=len:=by rw[←hlen,p2];simp
     have IG:∃c0:Array Value,c0.size=(0+parts.toList.length)*aR E.P e∧∀cells,Instr.fill (fun i=>some (i*aR E.P e,aR E.P e)) c0 (parts.map fun(i,x)=>(i,a.eval x)).toList=some cells→(Instr.buildSlice t len (parts.map fun(i,x)=>(i,a.eval x))).run E.P w=.ok (.slice (some ⟨w.heap.size,0,none⟩) len len) (w.alloc (.cells cells e)):=by
      by_cases h0:len*aR E.P e=0
      ·have KZ:len=0:=by rcases Nat.mul_eq_zero.1 h0 with h|h<;>omega
       refine⟨#[],by simp[B6,KZ],fun cells hf=>?_⟩;subst KZ;have GJ:parts= #[]:=by apply aif;simpa using afl B6
       subst GJ;have hf':cells= #[]:=by simpa[Instr.fill]using hf.symm
       subst hf';simp[Instr.buildSlice,run_underlying hu,sizeOf,typeInfo,z1,newRow,Instr.fill,Array.range_zero']
      ·refine⟨(Array.range (len*aR E.P e)).map (zv.cells[·%zv.cells.size]!),by simp[B6],fun cells hf=>?_⟩;exact run_buildSlice w t e len _ cells iz zv hu z1 z2 (by rw[z3];omega) (by rw[z3];exact h0) (by rw[z3];exact hf)
     obtain⟨c0,c1,c2⟩:=IG;obtain⟨μ',c',d1,d2,d3,d4,d5⟩:=p3 E.P E.aH w0 μ φ w (parts.map fun(i,x)=>(i,a.eval x)).toList [] c0 hR.toaw (by simp) (fun j i v hj=>by simp only[IS,aaO]at hj;obtain⟨y,hy,he⟩:=hj;simp only[Xp]at he;obtain⟨rfl,rfl⟩:=he;exact⟨a.eval y.2,by simp[hy],(ak hR y.2).1⟩) rfl (by simpa using c1) (by simpa using Cells.nil);simp only[ah9]at d5;obtain⟨φ',a1,a2,a3⟩:=uA E.P E.aH w0 μ' φ w _ _ (BI (some w.heap.size) len es.length (aR E.P e)) d2 (hR.kc.l0 d1 p1) (kq.alloc (o:=.cells c' e) d2 rfl (fun φ' hp _=>aK.nR (g:=w.heap.size) (by rw[hp]) rfl er (by rw[hp];simp only[maxLen];have:len*1≤len*aR E.P e:=ah7 _ er;omega) (fp w _) (by rw[hp,d4];simp[←B6]) (by rw[hp];simp[hlen]) (by have h1:=d5.len;rw[ahx (by rw[h1];exact agM _)];exact d5)) (by simp[bF.names]));refine⟨.slice (some ⟨w.heap.size,0,none⟩) len len,w.alloc (.cells c' e),μ',φ',by simp only[execOp,Sem.run_bind,c2 c' d3,Result.andThen_ok,Sem.run_pure],a2,a3,?_,fun id an=>?_⟩
     ·have:=ae.os (P:=E.P) (μ:=μ') (φ:=φ') (id:=site) (g:=w.heap.size) (by rw[a1]);rw[a1,hlen]at this;exact this
     ·have an:=IT an;subst an;simp[uE]
    ·cases h
   ·cases h
  ·cases h
 case call c=>exact absurd rfl (hc c)
 case range t x=>cases BL
 case next x s=>cases BL
 case entry x=>cases BL
 all_goals (cases h)
variable{dst:Option Nat}{after:Array Edge}{guard:Option (Nat×Bool)}
theorem Ti(hE:jJ E){callee:Callee}{argTypes:Array TypeId}{type:TypeId}{pos:String}(h:cC E draw site ⟨dst,.call ⟨callee,args,argTypes⟩,type,pos,after,guard⟩ f m k=some r):(∃v f' m' ft,k v f' m' ft=some r∧tC E draw site ⟨dst,.call ⟨callee,args,argTypes⟩,type,pos,after,guard⟩ f m v f' m' ft)∨(draw=false∧C5 E ⟨dst,.call ⟨callee,args,argTypes⟩,type,pos,after,guard⟩ f m k r):=by
 unfold cC at h;simp only at h;have qg:∀f2:Fr,(∀x∈(Op.call ⟨callee,args,argTypes⟩).operands,bA E f2 x=bA E f x)→args.toList.map (bA E f2)=args.toList.map (bA E f):=fun f2 hf=>nK fun x hx=>hf x (by simp_all[Op.operands,Call.operands]);have jI:=fun{w0 μ φ a w}(hR:Rel E.P E.aH E.fn.ntmps w0 μ φ f m a w)=>kJ hR (args:=args);have known:∀(g:FuncId)(vs:List V),ui E draw site g vs f m k=some r→(∀w0 μ φ a w,Rel E.P E.aH E.fn.ntmps w0 μ φ f m a w→∃xs,(execOp a.eval ⟨dst,.call ⟨callee,args,argTypes⟩,type,pos,after,guard⟩).run E.P w=(callFunc g xs).run E.P w∧vs.length=xs.size∧(∀(i:Nat)v x,vs[i]?=some v→xs[i]?=some x→ae E.P μ φ v x)∧∀id,ck id vs=true→(m id).isSome=true)→(∀(f2:Fr)(m2:Mem),(∀x∈(Op.call ⟨callee,args,argTypes⟩).operands,bA E f2 x=bA E f x)→∀(R':Type)(k':V→Fr→Mem→bp→Option R'),cC E true site ⟨dst,.call ⟨callee,args,argTypes⟩,type,pos,after,guard⟩ f2 m2 k'=ui E true site g vs f2 m2 k')→(∃v f' m' ft,k v f' m' ft=some r∧tC E draw site ⟨dst,.call ⟨callee,args,argTypes⟩,type,pos,after,guard⟩ f m v f' m' ft)∨(draw=false∧C5 E ⟨dst,.call ⟨callee,args,argTypes⟩,type,pos,after,guard⟩ f m k r):=by
  intro g vs hx ow Iy;obtain h0|⟨xj,⟨fn,c,f1,f2,f3⟩,k5⟩:=S2 hE hx;rotate_left
  ·refine .inr ⟨xj,And.intro (fun c x y h=>by cases h) fun rd w0 μ φ a w K Q _ hR hK=>Ah (fun c h=>by cases h) ?_⟩;obtain⟨xs,x1,x2,x3,x4⟩:=ow w0 μ φ a w hR;unfold Oper.wp;rw[x1,wI f1 f3 f2];rw[Oper.upon_enter];refine(k5 w0 μ φ _ w xs hR.toaw hR.kc x2 x3 x4).mono ?_;grind
  obtain⟨v,f',m',ft,k1,k2,ks,⟨fn,c,f1,f2,f3⟩,k5⟩:=h0;refine .inl ⟨v,f',m',ft,k1,⟨fun hd=>?_,fun _ h=>ks h,fun w0 μ φ a w K Q hR hK=>?_⟩⟩
  ·obtain⟨d1,wr,d2,d3,d4⟩:=k2 hd;exact⟨d1,wr.toList,by rw[d2];cases wr<;>rfl,fun x hx=>(by grind),fun f2 m2 hf hm R' k'=>by rw[Iy f2 m2 hf,d4 f2 m2 hm R' k'];cases wr<;>rfl⟩
  ·obtain⟨xs,x1,x2,x3,x4⟩:=ow w0 μ φ a w hR;unfold Oper.wp;rw[x1,wI f1 f3 f2];rw[Oper.upon_enter];refine(k5 w0 μ φ _ w xs hR.toaw hR.kc x2 x3 x4).mono ?_;grind
 have read:∀{v:V}{ft:bp},k v f m ft=some r→(∀(f2:Fr)(m2:Mem),(∀x∈(Op.call ⟨callee,args,argTypes⟩).operands,bA E f2 x=bA E f x)→(∀x∈ft,m2 x.2=m x.2)→∀(R':Type)(k':V→Fr→Mem→bp→Option R'),cC E true site ⟨dst,.call ⟨callee,args,argTypes⟩,type,pos,after,guard⟩ f2 m2 k'=k' v f2 m2 ft)→(∀w0 μ φ a w,Rel E.P E.aH E.fn.ntmps w0 μ φ f m a w→∃y,(execOp a.eval ⟨dst,.call ⟨callee,args,argTypes⟩,type,pos,after,guard⟩).run E.P w=.ok (.value y) w∧ae E.P μ φ v y∧∀id,v.has id=true→(m id).isSome=true)→(∃v f' m' ft,k v f' m' ft=some r∧tC E draw site ⟨dst,.call ⟨callee,args,argTypes⟩,type,pos,after,guard⟩ f m v f' m' ft)∨(draw=false∧C5 E ⟨dst,.call ⟨callee,args,argTypes⟩,type,pos,after,guard⟩ f m k r):=fun hk hn hs=>.inl ⟨_,_,_,_,hk,.read hn hs⟩;have one:∀{l:List Operand}{u:V},l.map (bA E f)=[u]→∃x,l=[x]∧u=bA E f x:=by simp_all
 have two:∀{l:List Operand}{u v:V},l.map (bA E f)=[u,v]→∃x y,l=[x,y]∧u=bA E f x∧v=bA E f y:=by
  intro l u v h;match l with
  |[]=>simp at h
  |[x]=>simp at h
  |[x,y]=>grind
  |_::_::_::_=>simp at h
 have four:∀{l:List Operand}{u1 u2 u3 u4:V},l.map (bA E f)=[u1,u2,u3,u4]→∃x y z t,l=[x,y,z,t]∧u1=bA E f x∧u2=bA E f y∧u3=bA E f z∧u4=bA E f t:=by
  intro l u1 u2 u3 u4 h;match l with
  |[]=>simp at h
  |[x]=>simp at h
  |[x,y]=>simp at h
  |[x,y,z]=>simp at h
  |[x,y,z,t]=>grind
  |_::_::_::_::_::_=>simp at h
 have Zy:∀{A:Type}{xs:Array A}{x:A},xs.toList=[x]→xs= #[x]:=fun h=>aif (by omega);have Tj:∀{A:Type}{xs:Array A}{x y:A},xs.toList=[x,y]→xs= #[x,y]:=fun h=>aif (by omega);split at h
 ·rename_i u hu;obtain⟨x,hx,rfl⟩:=one hu;split at h
  ·rename_i t ht;obtain⟨v,ft,v1,v2,v3,v4,v5⟩:=VY h;refine read v2 (fun f2 m2 hf hm R' k'=>?_) (fun w0 μ φ a w hR=>?_)
   ·grind [cC]
   ·have e1:=Zy hx;have e2:=Zy ht;subst e1;subst e2;obtain⟨z,z1,z2⟩:=v5 _ _ μ φ w _ type hR.toaw (ak hR x).1 (ak hR x).2;exact⟨z,by simp[execOp,resolve,invoke,builtin,z1],z2,fun id an=>by grind⟩
  ·cases h
 ·rename_i u u' hu;obtain⟨x,y,hx,rfl,rfl⟩:=two hu;split at h
  ·rename_i t t' ht;obtain⟨hd,ht',place,f',m',k1,k2,k3⟩:=Lt h;subst ht';refine .inl ⟨_,_,_,_,k1,⟨fun hd'=>(by grind),fun h _=>by(simp[eZ]at h),fun w0 μ φ a w K Q hR hK=>?_⟩⟩;have e1:=Tj hx;have e2:=Tj ht;subst e1;subst e2;obtain⟨w',z,φ',z1,z2,z3,z4⟩:=k3 _ w0 μ φ w (ax E.fn.ntmps w0 a) _ _ type hR.toaw hR.kc (ak hR x).1 (ak hR y).1;exact fA (y:=z) (w':=w') (by simp[execOp,resolve,invoke,builtin,z1]) (hK z w' μ φ' z2 z3 z4 fun id an=>by have an:=IT an;subst an;omega)
  ·cases h
 ·rename_i u u' hu;obtain⟨x,y,hx,rfl,rfl⟩:=two hu;split at h
  ·rename_i t ts ht;obtain⟨n,id,b,ft,c1,c2,c3⟩:=SX h;refine .inl ⟨_,_,_,_,c2,⟨fun hd=>⟨rfl,[(id,b)],rfl,by simp,fun f2 m2 hf hm R' k'=>?_⟩,fun h _=>by(simp[eZ]at h),fun w0 μ φ a w K Q hR hK=>?_⟩⟩
   ·simp only[cC,qg f2 hf,hu,ht];exact c1 m2 hm _ _
   ·have e1:=Tj hx;subst e1;have e2:argTypes=(t::ts).toArray:=aif (by omega);subst e2;obtain⟨w',φ',z1,z2,z3,z4⟩:=c3 _ w0 μ φ w (ax E.fn.ntmps w0 a) f _ _ ts type hR.toaw hR.kc (ak hR x).1 (ak hR y).1;exact fA (y:=.int .i64 n) (w':=w') (by simp only[execOp,resolve,invoke,builtin,Sem.run_bind,Sem.run_pure,Result.andThen_ok];rw[show(#[x,y].map a.eval)= #[a.eval x,a.eval y] by simp,z1];rfl) (hK _ w' μ φ' z2 z3 (.pv (.int z4)) (by simp))
  ·cases h
 ·rename_i u hu;obtain⟨x,hx,rfl⟩:=one hu;split at h
  ·rename_i t ts ht;obtain⟨id,b,c1,c2,c3⟩:=QO h;refine .inl ⟨_,_,_,_,c2,⟨fun hd=>⟨rfl,[(id,b)],rfl,by simp,fun f2 m2 hf hm R' k'=>?_⟩,fun h _=>by(simp[eZ]at h),fun w0 μ φ a w K Q hR hK=>?_⟩⟩
   ·simp only[cC,qg f2 hf,hu,ht];exact c1 m2 (hm (true,id) (by simp)) _ _
   ·have e1:=Zy hx;subst e1;have e2:argTypes=(t::ts).toArray:=aif (by omega);subst e2;obtain⟨w',z1,z2,z3⟩:=c3 _ w0 μ φ w (ax E.fn.ntmps w0 a) f _ ts type hR.toaw hR.kc (ak hR x).1;exact fA (y:=.tuple #[]) (w':=w') (by simp only[execOp,resolve,invoke,builtin,Sem.run_bind,Sem.run_pure,Result.andThen_ok];rw[show(#[x].map a.eval)= #[a.eval x] by simp,z1];rfl) (hK _ w' μ φ z2 z3 .top (by simp))
  ·cases h
 ·rename_i u u' hu;obtain⟨x,y,hx,rfl,rfl⟩:=two hu;obtain⟨q,q1,q2,q3⟩:=SN h;refine read q2 (fun f2 m2 hf hm R' k'=>?_) (fun w0 μ φ a w hR=>?_)
  ·grind [cC]
  ·have e1:=Tj hx;subst e1;obtain⟨z,z1,z2⟩:=q3 E.P μ φ w _ _ (ak hR x).1 (ak hR y).1;exact⟨z,by simp[execOp,resolve,invoke,builtin,Builtin.min_,z1],.pv z2,by simp⟩
 ·rename_i u u' hu;obtain⟨x,y,hx,rfl,rfl⟩:=two hu;obtain⟨q,q1,q2,q3⟩:=yY h;refine read q2 (fun f2 m2 hf hm R' k'=>?_) (fun w0 μ φ a w hR=>?_)
  ·grind [cC]
  ·have e1:=Tj hx;subst e1;obtain⟨z,z1,z2⟩:=q3 E.P μ φ w _ _ (ak hR x).1 (ak hR y).1;exact⟨z,by simp[execOp,resolve,invoke,builtin,Builtin.max_,z1],.pv z2,by simp⟩
 ·rename_i u1 u2 u3 u4 hu;obtain⟨x,y,z,t,hx,rfl,rfl,rfl,rfl⟩:=four hu;obtain⟨q,q1,q2,q3⟩:=SO h;refine read q2 (fun f2 m2 hf hm R' k'=>?_) (fun w0 μ φ a w hR=>?_)
  ·grind [cC]
  ·have e1:args= #[x,y,z,t]:=aif (by omega);subst e1;obtain⟨v1,v2,v3,z1,z2,z3,z4⟩:=q3 E.P μ φ w _ _ _ _ (ak hR x).1 (ak hR y).1 (ak hR z).1 (ak hR t).1;exact⟨v3,by simp[execOp,resolve,invoke,builtin,Builtin.max_,z1,z2,z3],.pv z4,by simp⟩
 ·rename_i _ g;refine known g _ h (fun w0 μ φ a w hR=>⟨args.map a.eval,?_,(kJ hR).1,(kJ hR).2,fun id an=>pz hR an⟩) (fun f2 m2 hf R' k'=>?_)
  ·simp[execOp,resolve,Deferred.ofValue,invoke,Act.eval]
  ·simp only[cC,qg f2 hf]
 ·rename_i _ tm;split at h
  ·rename_i g caps oz;refine known (uk g) _ h (fun w0 μ φ a w hR=>?_) (fun f2 m2 hf R' k'=>?_)
   ·have h1:=(ak hR (.tmp tm)).1;rw[oz]at h1;have hlc:=(ak hR (.tmp tm)).2;rw[oz]at hlc;generalize hy:a.eval (.tmp tm)=y at h1;cases h1 with
    | @fn _ _ xs c1 c2=>
     obtain⟨o1,o2⟩:=kJ hR (args:=args);obtain⟨b1,b2⟩:=Py (g:=g) (by simp) o2 c1 c2;refine⟨y5 g xs (args.map a.eval),?_,b1,b2,fun id an=>?_⟩
     ·cases e:Nat.blt g Cj with
      |true=>rw[pP e]at hy;simp[execOp,resolve,Deferred.ofValue,invoke,hy,uk,y5,e]
      |false=>rw[Is e]at hy;simp[execOp,resolve,Deferred.ofValue,invoke,hy,uk,y5,e]
     ·obtain⟨v,hv,hh⟩:=cF.1 an;rcases Tg hv with hv|hv
      ·exact pz hR (cF.2 ⟨v,hv,hh⟩)
      ·exact hlc id (by simp only[V.has];exact cF.2 ⟨v,hv,hh⟩)
   ·have:=hf (.tmp tm) (by simp[Op.operands,Call.operands]);simp only[cC,qg f2 hf,this,oz]
  ·rename_i g caps oz;refine known (uk g) _ h (fun w0 μ φ a w hR=>?_) (fun f2 m2 hf R' k'=>?_)
   ·have h1:=(ak hR (.tmp tm)).1;rw[oz]at h1;generalize hy:a.eval (.tmp tm)=y at h1;cases h1 with
    |pv h1=>cases h1 with
     | @fn _ _ xs c1 c2=>
      obtain⟨o1,o2⟩:=kJ hR (args:=args);obtain⟨b1,b2⟩:=Py (g:=g) (caps:=caps.map .pv) (xs:=xs) (by simp) o2 (by simpa using c1) (fun i v x hv hx=>by simp only[IS,aaO]at hv;obtain⟨q,hq,rfl⟩:=hv;exact .pv (c2 _ q x hq hx));refine⟨y5 g xs (args.map a.eval),?_,b1,b2,fun id an=>?_⟩
      ·cases e:Nat.blt g Cj with
       |true=>rw[pP e]at hy;simp[execOp,resolve,Deferred.ofValue,invoke,hy,uk,y5,e]
       |false=>rw[Is e]at hy;simp[execOp,resolve,Deferred.ofValue,invoke,hy,uk,y5,e]
      ·obtain⟨v,hv,hh⟩:=cF.1 an;rcases Tg hv with hv|hv
       ·exact pz hR (cF.2 ⟨v,hv,hh⟩)
       ·obtain⟨q,_,rfl⟩:=agZ.1 hv;cases hh
   ·have:=hf (.tmp tm) (by simp[Op.operands,Call.operands]);simp only[cC,qg f2 hf,this,oz]
  ·rename_i id oz;split at h
   ·cases h
   ·rename_i xj;refine .inr ⟨by simpa using xj,And.intro (fun c x y h=>by cases h) fun rd w0 μ φ a w K Q hY hR hK=>?_⟩;have h1:=(ak hR (.tmp tm)).1;rw[oz]at h1;generalize hy:a.eval (.tmp tm)=y at h1;cases h1 with
    | @yl _ g hg=>
     obtain⟨o1,o2⟩:=kJ hR (args:=args);obtain⟨fn,tmps,assign,body,y1,y2⟩:=hY _ _ _ _ _ _ _ _ h μ φ (ax E.fn.ntmps w0 a) w (args.map a.eval) hR.toaw hR.kc (fun t ht=>by unfold ax;rw[IN (by omega)]) o1 o2 (fun id an=>pz hR an) g hg;refine⟨fun _ _=>trivial,?_⟩;rw[Oper.semAt_eq _ _ _ (fun c h=>by cases h)];have ow:(execOp a.eval ⟨dst,.call ⟨.value (.tmp tm),args,argTypes⟩,type,pos,after,guard⟩).run E.P w=.ok (.round g fn tmps assign body) w:=by simp only[execOp,resolve,Deferred.ofValue,hy];simpa[invoke]using y1
     rw[ow,Oper.uponIn_round];refine⟨fun h=>(by cases h),(FR.Wj y2).mono ?_⟩;rintro e w' ⟨v,f',m',y,μ',φ',h0,rfl,_,h1,h2,h3,h4⟩;exact hK v f' m' y w' μ' φ' h0 h1 h2 h3 h4
  ·cases h
 ·cases h
theorem IH{a b:Option R}(h:agree a b=some r):a=some r∧b=some r:=by
 unfold agree at h;split at h
 ·rename_i e;exact⟨h,by rw[←e];exact h⟩
 ·cases h
theorem Q5{op:BinOp}{t:TypeId}{es:List PV}{k:Bool→Option R}(h:La E op t es k=some r):∃e,E.P.underlying t=some (.slice e)∧((op=.eql∧∀b,(b=true→es=[])→k b=some r)∨(op=.neq∧∀b,(b=false→es=[])→k b=some r)):=by
 unfold La at h;split at h
 ·rename_i e hu;refine⟨e,hu,.inl ⟨rfl,fun b hb=>?_⟩⟩;split at h
  ·obtain⟨h1,h2⟩:=IH h;cases b<;>assumption
  ·rename_i cL;cases b with
   |true=>exact absurd (by simp[hb rfl]) cL
   |false=>exact h
 ·rename_i e hu;refine⟨e,hu,.inr ⟨rfl,fun b hb=>?_⟩⟩;split at h
  ·obtain⟨h1,h2⟩:=IH h;cases b<;>assumption
  ·rename_i cL;cases b with
   |false=>exact absurd (by simp[hb rfl]) cL
   |true=>exact h
 ·cases h
theorem Wl{op:BinOp}{t:TypeId}{x y:Operand}{ty type:TypeId}{pos:String}{s:Nat}{es:List PV}(h:cC E draw site ⟨dst,.binOp op t x y ty,type,pos,after,guard⟩ f m k=some r)(hx:bA E f x=.pv (.rs s es))(hy:bA E f y=.gF):draw=false∧C5 E ⟨dst,.binOp op t x y ty,type,pos,after,guard⟩ f m k r:=by
 simp only[cC,hx,hy]at h;split at h
 ·cases h
 ·rename_i hd;refine⟨by simpa using hd,And.intro (fun c x y h=>by cases h) fun rd w0 μ φ a w K Q _ hR hK=>Ah (fun c h=>by cases h) ?_⟩;obtain⟨e,hu,hk⟩:=Q5 h;have h1:=(ak hR x).1;have h2:=(ak hR y).1;rw[hx]at h1;rw[hy]at h2;generalize hvx:a.eval x=vx at h1;generalize V5:a.eval y=vy at h2;have B3:∃(ad:Option Addr)(n c:Nat),vx=.slice ad n c∧(ad=none→es=[]):=by
   cases h1 with
   |pv h1=>
    cases h1 with
    |ko=>exact⟨none,0,0,rfl,fun _=>rfl⟩
    |Ez _=>exact⟨_,_,_,rfl,fun _=>rfl⟩
    |rs _ _ _ _ _ _ _=>exact⟨_,_,_,rfl,fun h=>by cases h⟩
  obtain⟨ad,n,c,rfl,Wa⟩:=B3;cases h2;have go:∀b,(binOp op t (.slice ad n c) (.slice none 0 0)).run E.P w=.ok (.bool b) w→k (.pv (.bool b)) f m [(true,0)]=some r→(⟨dst,.binOp op t x y ty,type,pos,after,guard⟩:Oper).wp E.P a w K Q:=fun b hb hkb=>by refine fA (y:=.bool b) (w':=w) ?_ (hK _ _ _ _ _ _ _ hkb hR.toaw hR.kc (.pv .bool) (by simp));simp only[execOp,eqGuard_at_slice,Sem.run_bind,Sem.run_pure,hvx,V5,Result.andThen_ok];rw[hb];rfl
  rcases hk with⟨rfl,hk⟩|⟨rfl,hk⟩
  ·refine go ad.isNone (Lib.run_eql_slice_nil w t e ad n c 0 0 hu) (hk _ fun hb=>Wa (by simpa using hb))
  ·refine go (!ad.isNone) ?_ (hk _ fun hb=>Wa (by simpa using hb));simp only[binOp];simp[Op.equal,Op.maxDepth,Lib.run_equalIn_slice_nil w 9999 t e ad n c 0 0 hu]
theorem Tk(h:cC E draw site o f m k=some r)(hi:Le o.op=true):draw=false∧C5 E o f m k r:=by
 obtain⟨dst,op,type,pos,after,guard⟩:=o;unfold cC at h;cases op<;>first|(cases hi;done)|skip
 case range t x=>
  simp only at h;split at h
  ·cases h
  ·rename_i hd;refine⟨by simpa using hd,And.intro (fun c x y h=>by cases h) fun rd w0 μ φ a w K Q _ hR hK=>Ah (fun c h=>by cases h) ?_⟩;obtain⟨f',m',hk,hl,hs⟩:=QV h;obtain⟨w',y',μ',φ',r1,r2,r3,r4⟩:=hs _ _ _ _ _ _ _ hR.toaw hR.kc (ak hR x).1;exact fA (y:=y') (w':=w') (by simp[execOp,r1]) (hK _ _ _ _ _ _ _ hk r2 r3 r4 fun id an=>by have:=IT an;subst this;exact hl)
 case next x s=>
  simp only at h;split at h
  ·cases h
  ·rename_i hd;simp only[afk,ajV,ahM]at hd;obtain⟨hd,rfl⟩:=hd;refine⟨hd,And.intro (fun c x y h=>by cases h) fun rd w0 μ φ a w K Q _ hR hK=>Ah (fun c h=>by cases h) ?_⟩;obtain⟨v,m',y',w',hk,hv,hl,r1,r2,r3⟩:=S3 h _ _ _ _ _ _ type hR.toaw (ak hR x).1;exact fA (y:=y') (w':=w') (by simp[execOp,r1]) (hK _ _ _ _ _ _ _ hk r2 (hR.kc.l0 (fun _ _ h=>h) hl) r3 fun id an=>by rw[hv id]at an;cases an)
 case entry x=>
  simp only at h;split at h
  ·cases h
  ·rename_i hd;refine⟨by simpa using hd,And.intro (fun c x y h=>by cases h) fun rd w0 μ φ a w K Q _ hR hK=>Ah (fun c h=>by cases h) ?_⟩;obtain⟨v,m',y',hk,hv,hl,r1,r3,r2⟩:=QW h _ _ _ _ _ _ _ hR.toaw (ak hR x).1;exact fA (y:=y') (w':=w) (by simp[execOp,r1]) (hK _ _ _ _ _ _ _ hk r3 (hR.kc.l0 (fun _ _ h=>h) hl) r2 fun id an=>by rw[hv id]at an;cases an)
theorem Wm(hE:jJ E)(h:cC E draw site o f m k=some r):(∃v f' m' ft,k v f' m' ft=some r∧tC E draw site o f m v f' m' ft)∨(draw=false∧C5 E o f m k r):=by
 by_cases hc:∃c,o.op=.call c
 ·obtain⟨dst,op,type,pos,after,guard⟩:=o;obtain⟨⟨callee,args,argTypes⟩,hc⟩:=hc;simp only at hc;subst hc;exact Ti hE h
 ·by_cases hb:∃op t x y ty s es,o.op=.binOp op t x y ty∧bA E f x=.pv (.rs s es)∧bA E f y=.gF
  ·obtain⟨op,t,x,y,ty,s,es,h1,h2,h3⟩:=hb;obtain⟨dst,op',type,pos,after,guard⟩:=o;simp only at h1;subst h1;exact .inr (Wl h h2 h3)
  ·cases hi:Le o.op with
   |true=>exact .inr (Tk h hi)
   |false=>exact .inl (Wk hE h (fun c hcc=>hc ⟨c,hcc⟩) (fun op t x y ty s es h1 h2 h3=>hb ⟨op,t,x,y,ty,s,es,h1,h2,h3⟩) hi)
theorem Rel.xM{nt:Nat}{P:Program}{G:Nat→Option (List PV)}{w0:bu}{μ:Ro}{φ:Nat→aA}{f:Fr}{m:Mem}{a:Act}{w:World}(h:Rel P G nt w0 μ φ f m a w){K:Ro}(hK:∀b o,K b=some o→μ b=some o)(hK0:∀b o,w0.dx b=some o→K b=some o):Rel P G nt {w0 with dx:=K} μ φ f m a w:={toaw:=h.toaw.xM hK,size:=h.size,defers:=h.defers,lR:=fun b o hb=>hK0 b o (h.lR b o hb),fr:=h.fr,live:=h.live}
theorem Rel.CS{nt:Nat}{P:Program}{G:Nat→Option (List PV)}{w0:bu}{μ:Ro}{φ:Nat→aA}{f:Fr}{m:Mem}{a:Act}{w:World}{K:Ro}(h:Rel P G nt {w0 with dx:=K} μ φ f m a w)(hK:∀b o,w0.dx b=some o→K b=some o)(ho:∀b o,w0.lR b=some o→w0.dx b=some o):Rel P G nt w0 μ φ f m a w:={toaw:=h.toaw.CS hK,size:=h.size,defers:=h.defers,lR:=ho,fr:=h.fr,live:=h.live}
abbrev II(μ μ':Ro):Prop:=∀b o,μ b=some o→μ' b=some o
theorem LN(h:cC E draw site o f m k=some r):∀c,o.op≠.defer c:=by intro c hc;obtain⟨dst,op,type,pos,after,guard⟩:=o;simp only at hc;subst hc;simp[cC]at h
theorem tC.xR{f':Fr}{ft:bp}(h:tC E draw site o f m v f' m' ft)(hd:∀c,o.op≠.defer c)(rd:Option Nat)(w0:bu)(μ:Ro)(φ:Nat→aA)(a:Act)(w:World)(K:Act→World→Prop)(Q:Exit→Act→World→Prop)(hR:Rel E.P E.aH E.fn.ntmps w0 μ φ f m a w)(hK:∀y w' μ' φ',II μ μ'→aw E.P E.aH w0 μ' φ' m' w'→bX E.P μ' φ' m' f' (ax E.fn.ntmps w0 a)→ae E.P μ' φ' v y→(∀id,v.has id=true→(m' id).isSome=true)→K (a.put o.dst y) w'):o.wpIn (FR rd) 0 E.P a w K Q:=Ah hd (h.sound {w0 with dx:=μ} μ φ a w K Q (hR.xM (fun _ _ h=>h) hR.dx) fun y w' μ' φ' h1 h2 h3 h4=>hK y w' μ' φ' h1.dx (h1.CS hR.dx) h2 h3 h4)
theorem C5.xR(h:C5 E o f m k r)(rd:Option Nat)(w0:bu)(μ:Ro)(φ:Nat→aA)(a:Act)(w:World)(K:Act→World→Prop)(Q:Exit→Act→World→Prop)(hY:sw E.P E.aH E.fn.ntmps E.yl w0)(hR:Rel E.P E.aH E.fn.ntmps w0 μ φ f m a w)(hK:∀v f' m' y w' μ' φ',k v f' m' [(true,0)]=some r→II μ μ'→aw E.P E.aH w0 μ' φ' m' w'→bX E.P μ' φ' m' f' (ax E.fn.ntmps w0 a)→ae E.P μ' φ' v y→(∀id,v.has id=true→(m' id).isSome=true)→K (a.put o.dst y) w'):o.wpIn (FR rd) 0 E.P a w K Q:=h.2 rd {w0 with dx:=μ} μ φ a w K Q (hY.xM hR.dx) (hR.xM (fun _ _ h=>h) hR.dx) fun v f' m' y w' μ' φ' h0 h1 h2 h3 h4=>hK v f' m' y w' μ' φ' h0 h1.dx (h1.CS hR.dx) h2 h3 h4
end
section
variable {R:Type} {E:Env}
variable{site:Nat}{o:Oper}{k:V→Fr→Mem→bp→Option R}
theorem LO{f:Fr}{m:Mem}{sp:Sp}{r:R}(hs:xC E site o f m=some sp)(h:XK E site sp f m k=some r):∃v wr,k v (kf (sp.info site).1 f) (sj wr (km (sp.info site).1 m)) (sp.info site).2=some r∧(∀x∈wr,(true,x.1)∈(sp.info site).2)∧(∀x∈(sp.info site).1,(true,x.2)∈(sp.info site).2)∧(∀(f2:Fr)(m2:Mem)(R':Type)(k':V→Fr→Mem→bp→Option R'),XK E site sp f2 m2 k'=k' v (kf (sp.info site).1 f2) (sj wr (km (sp.info site).1 m2)) (sp.info site).2)∧(∀c,o.op≠.defer c)∧tC E false site o f m v (kf (sp.info site).1 f) (sj wr (km (sp.info site).1 m)) (sp.info site).2:=by
 obtain⟨dst,op,type,pos,after,guard⟩:=o;unfold xC at hs;cases op;case store t a x=>
  simp only at hs;split at hs
  ·rename_i id i off ha;split at hs
   ·rename_i s et es hm;split at hs
    ·rename_i cs hc;split at hs
     ·rename_i ps j id2 ht;split at hs
      ·rename_i kr;simp only[AI]at hs;subst hs;simp only[T2,No,agS]at kr;obtain⟨⟨hb,h0⟩,cL⟩:=kr;have cL:id2≠id:=fun e=>by subst e;simp[ajF]at cL
       unfold XK at h;obtain⟨e,he,h⟩:=By.1 h;refine⟨_,_,h,by simp[Sp.info],by simp[Sp.info],fun f2 m2 R' k'=>by simp only[XK,he,agO];rfl,by simp,⟨fun h=>(nomatch h),fun _ h=>absurd (h (true,id) (by simp[Sp.info])) (by simp),fun w0 μ φ ac w K Q hR hK=>?_⟩⟩;obtain⟨w',φ',u1,u2,u3⟩:=S7 hm hc ht hb h0 cL he hR.toaw hR.kc (by have:=(ak hR a).1;rw[ha]at this;exact this) (ak hR x).1;exact uW (by simp[execOp,u1]) (hK undef w' μ φ' u2 u3 .top (by simp))
      ·cases hs
     ·cases hs
    ·cases hs
   ·cases hs
  ·cases hs
 case buildSlice t len parts=>
  simp only at hs;split at hs
  ·rename_i e v hu hp;split at hs
   ·rename_i cs hc;split at hs
    ·rename_i ps j id2 ht abn;split at hs
     ·rename_i p EI;split at hs
      ·rename_i kr;simp only[AI]at hs;subst hs;simp only[T2,No]at kr;obtain⟨⟨⟨hlen,er⟩,Zz⟩,hz⟩:=kr;have hlen:=IT hlen;subst hlen;refine⟨_,_,h,by simp[Sp.info],by simp[Sp.info],fun f2 m2 R' k'=>rfl,by simp,⟨fun h=>(nomatch h),fun h _=>by(simp[eZ]at h),fun w0 μ φ ac w K Q hR hK=>?_⟩⟩;obtain⟨x,hx,hxv⟩:∃x,parts= #[(0,x)]∧bA E f x=v:=by
        obtain⟨l⟩:=parts;match l,hp with
        |[(a,x)],hp=>simp only[agP,ail,ahs,Xp,ajZ]at hp;exact⟨x,by rw[hp.1],hp.2⟩
       subst hx;obtain⟨y,w',φ',u1,u2,u3,u4⟩:=QZ hu hc ht abn EI er Zz hz hR.toaw hR.kc (by have:=(ak hR x).1;rw[hxv]at this;exact this);exact fA (y:=y) (w':=w') (by
        have:(#[((0:Nat),x)].map fun(x:Nat×Operand)=>(x.1,ac.eval x.2))= #[(0,ac.eval x)]:=by simp
        simp only[execOp,Sem.run_bind,this,u1,Result.andThen_ok,Sem.run_pure]) (hK y w' μ φ' u2 u3 u4 fun j hj=>by have hj:=IT hj;subst hj;simp[sj])
      ·cases hs
     ·cases hs
    ·cases hs
   ·cases hs
  ·cases hs
 case call c=>
  obtain⟨callee,args,argTypes⟩:=c;simp only at hs;split at hs
  ·rename_i id x t t' ha Q3;split at hs
   ·rename_i e s et es hu hm;split at hs
    ·rename_i kr;simp only[T2,No]at kr;obtain⟨⟨⟨⟨⟨h1,h2⟩,h3⟩,h4⟩,h5⟩,h6⟩:=kr;subst h3;have h1:et=e:=by simpa using h1
     subst h1;have qg:∃y z,args= #[y,z]∧bA E f y=.os id∧bA E f z=x:=by
      obtain⟨l⟩:=args;rcases l with _|⟨y,_|⟨z,_|⟨u,l⟩⟩⟩
      ·simp at ha
      ·simp at ha
      ·simp only[agP,ail,ahs,ajZ]at ha;exact⟨y,z,rfl,ha.1,ha.2⟩
      ·simp at ha
     obtain⟨y,z,rfl,hy,hz⟩:=qg;have Wn:argTypes= #[t',t']:=aif (by simpa using Q3);subst Wn;have main:∀(new:List PV)(src:Option Nat)(rd:bp),sp=.app id s et es new src rd→((∃id2,src=some id2∧id2≠id∧x=.os id2∧m id2=some (.nest s et new))∨(src=none∧eA m s x=some (new,rd)))→∃v wr,k v (kf (sp.info site).1 f) (sj wr (km (sp.info site).1 m)) (sp.info site).2=some r∧(∀x∈wr,(true,x.1)∈(sp.info site).2)∧(∀x∈(sp.info site).1,(true,x.2)∈(sp.info site).2)∧(∀(f2:Fr)(m2:Mem)(R':Type)(k':V→Fr→Mem→bp→Option R'),XK E site sp f2 m2 k'=k' v (kf (sp.info site).1 f2) (sj wr (km (sp.info site).1 m2)) (sp.info site).2)∧(∀c,(⟨dst,.call ⟨.builtin .append,#[y,z],#[t',t']⟩,type,pos,after,guard⟩:Oper).op≠.defer c)∧tC E false site ⟨dst,.call ⟨.builtin .append,#[y,z],#[t',t']⟩,type,pos,after,guard⟩ f m v (kf (sp.info site).1 f) (sj wr (km (sp.info site).1 m)) (sp.info site).2:=by
      intro new src rd sk xK;subst sk;simp only[XK]at h;split at h
      ·rename_i gu;have hw:(true,id)∈(Sp.info site (.app id s et es new src rd)).2:=by cases src<;>simp[Sp.info]
       have hkm:sj [(id,.nest s et (es++new))] (km (Sp.info site (.app id s et es new src rd)).1 m)=al (bl (bB id (Pw src m)) id) id (.nest s et (es++new)):=by cases src<;>rfl
       have hkf:kf (Sp.info site (.app id s et es new src rd)).1 f=eL id (kfS src f):=by cases src<;>rfl
       refine⟨_,_,h,fun q hq=>(by simp only[aiu]at hq;subst hq;exact hw),fun q hq=>?_,fun f2 m2 R' k'=>by simp only[XK];rw[BY gu],by simp,⟨fun h=>(nomatch h),fun _ h=>absurd (h (true,id) hw) (by simp),fun w0 μ φ ac w K Q hR hK=>?_⟩⟩
       ·cases src<;>simp only[Sp.info,afh,ahK,ai8]at hq⊢
        ·subst hq;simp
        ·rcases hq with rfl|rfl<;>simp
       ·obtain⟨w',y',φ',u1,u2,u3,u4⟩:=Q2 (ty:=type) hu hm h2 h4 h5 h6 gu xK hR.toaw hR.kc (by have:=(ak hR y).1;rw[hy]at this;exact this) (by have:=(ak hR z).1;rw[hz]at this;exact this);exact fA (y:=y') (w':=w') (by simp[execOp,resolve,invoke,builtin,u1]) (hK y' w' μ φ' (by rw[hkm];exact u2) (by rw[hkm,hkf];exact u3) u4 fun j hj=>by have hj:=IT hj;subst hj;simp[sj])
      ·cases h
     split at hs
     ·rename_i qY;split at hs
      ·rename_i s' Eo new hm';split at hs
       ·rename_i SI;simp only[T2,No]at SI;obtain⟨⟨c1,c2⟩,c3⟩:=SI;have c1:=IT c1;subst c1;subst c2;simp only[AI]at hs;exact main new (some qY) [] hs.symm (.inl ⟨qY,rfl,fun e=>by subst e;simp[ajF]at c3,rfl,hm'⟩)
       ·cases hs
      ·split at hs
       ·rename_i new rd B4;split at hs
        ·cases hs
        ·simp only[AI]at hs;exact main new none rd hs.symm (.inr ⟨rfl,B4⟩)
       ·cases hs
     ·split at hs
      ·rename_i new rd B4;split at hs
       ·cases hs
       ·simp only[AI]at hs;exact main new none rd hs.symm (.inr ⟨rfl,B4⟩)
      ·cases hs
    ·cases hs
   ·cases hs
  ·cases hs
 case mapUpdate t x key v=>
  simp only at hs;split at hs
  ·rename_i kt et id id2 hu hx hv;split at hs
   ·rename_i uz e es s e' rs kp h1 h2 hk;split at hs
    ·rename_i kr;simp only[AI]at hs;subst hs;simp only[T2,No]at kr;obtain⟨⟨Zi,hee⟩,_⟩:=kr;subst Zi;subst hee;refine⟨_,_,h,by simp[Sp.info],by simp[Sp.info],fun f2 m2 R' k'=>rfl,by simp,⟨fun h=>(nomatch h),fun h _=>by(simp[eZ]at h),fun w0 μ φ ac w K Q hR hK=>?_⟩⟩;obtain⟨w',φ',u1,u2,u3⟩:=Q1 hu h1 h2 hk hR.toaw hR.kc (by have:=(ak hR x).1;rw[hx]at this;exact this) (ak hR key).1 (by have:=(ak hR v).1;rw[hv]at this;exact this);exact uW (by simp[execOp,u1]) (hK undef w' μ φ' u2 u3 .top (by simp))
    ·cases hs
   ·cases hs
  ·cases hs
 all_goals (cases hs)
theorem GV(hE:jJ E){draw:Bool}{f:Fr}{m:Mem}{r:R}(h:Ik E draw site o f m k=some r):(∃v f' m' ft,k v f' m' ft=some r∧tC E draw site o f m v f' m' ft)∨(draw=false∧C5 E o f m k r):=by
 unfold Ik at h;split at h
 ·rename_i sp sk;cases draw with
  |true=>cases sk
  |false=>
   simp only[cond]at sk;cases hn:E.zO site with
   |false=>rw[hn]at sk;cases sk
   |true=>rw[hn]at sk;obtain⟨v,wr,h1,_,_,_,_,h2⟩:=LO sk h;exact .inl ⟨_,_,_,_,h1,h2⟩
 ·exact Wm hE h
theorem Aj{draw:Bool}{f:Fr}{m:Mem}{r:R}(h:Ik E draw site o f m k=some r):∀c,o.op≠.defer c:=by
 unfold Ik at h;split at h
 ·rename_i sp sk;cases draw with
  |true=>cases sk
  |false=>
   simp only[cond]at sk;cases hn:E.zO site with
   |false=>rw[hn]at sk;cases sk
   |true=>rw[hn]at sk;obtain⟨v,wr,h1,_,_,_,h3,h2⟩:=LO sk h;exact h3
 ·exact LN h
end
end Go.Ab
