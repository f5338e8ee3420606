import Derived.Test.YteddgaennnfacaaGreatAbP5
import Derived.Lib.SliceRun
import Derived.Laws.IdiomStrings
set_option linter.all false
namespace Go.Ab
open Go.RowKit (Below)
section
variable {R:Type} {E:Env}
variable{t:TypeId}
theorem KS{P:Program}{w:World}{ms:Array (String×TypeId)}(hu:P.underlying t=some (.interface ms)){b:Bool}{x:Value}{μ:Ro}(hx:ao P μ (.ifc b) x):(Op.equalIn 10000 t x .nilIface).run P w=.ok (!b) w:=by show(Op.equalIn (9999+1) t x .nilIface).run P w=.ok (!b) w;cases hx<;>(unfold Op.equalIn;simp only[Sem.run_bind,run_underlying hu,Result.andThen_ok];rfl)
theorem Gt{P:Program}{w:World}{op:BinOp}{ox:Operand}{c:Value}{b:Bool}{x:Value}{μ:Ro}(hx:ao P μ (.ifc b) x):(eqGuard op t ox (.const c) x .nilIface).run P w=.ok () w:=by
 cases hx
 ·rw[eqGuard_nil_constR];rfl
 ·rename_i d z;have:eqGuard op t ox (.const c) (.iface d z) .nilIface=pure ():=by cases op<;>rfl
  rw[this];rfl
theorem XH{op:BinOp}{oy:Operand}{a b:V}{k:PV→Option R}{r:R}(h:Nj E op t oy a b k=some r):∃q,(∀(R':Type)(k':PV→Option R'),Nj E op t oy a b k'=k' q)∧k q=some r∧∀(μ:Ro)(φ:Nat→aI)(w:World)(ox:Operand)(x y:Value),(Ht oy=true→y=.nilIface)→an E.P μ φ a x→an E.P μ φ b y→∃z,(wy op t ox oy x y).run E.P w=.ok z w∧ao E.P μ q z:=by
 unfold Nj at h⊢;cases hn:Ht oy with
 |false=>rw[hn]at h;obtain⟨q,q1,q2,q3⟩:=abu h;exact⟨q,fun R' k'=>q1 R' k',q2,fun μ φ w ox x y _ hx hy=>q3 μ φ w ox oy x y hx hy⟩
 |true=>
  rw[hn]at h;simp only[cond]at h⊢;have hoy:oy=.const .nilIface:=by unfold Ht at hn;grind
  subst hoy;unfold WU at h⊢;split at h
  ·rename_i c;split at h
   ·rename_i ms hu;refine⟨_,fun R' k'=>by rfl,h,fun μ φ w ox x y hy hx _=>?_⟩;have:=hy trivial;subst this;cases hx with
    |pv hx=>exact⟨_,bZ (Gt hx) (jg (by cases hx<;>rfl) (KS hu hx)),.bool⟩
   ·rename_i ms hu;refine⟨_,fun R' k'=>by rfl,h,fun μ φ w ox x y hy hx _=>?_⟩;have:=hy trivial;subst this;cases hx with
    |pv hx=>refine⟨_,bZ (Gt hx) (jh (by cases hx<;>rfl) (KS hu hx)),?_⟩;rw[aov];exact .bool
   ·cases h
  ·cases h
theorem KT{P:Program}{μ:Ro}:∀{es:List PV}{b:Bytes}{xs:List Value},EZ es=some b→Cells P μ 1 es xs→b.length=es.length∧xs=b.map fun c=>.int .u8 (c.toNat:Int)
 |[],b,xs,h,hC=>by simp only[EZ,By]at h;subst h;have:=hC.len;simp_all
 |e::es,b,xs,h,hC=>by
  unfold EZ at h;split at h
  ·rename_i he;cases he
  ·rename_i n r he;simp only[amn]at he;obtain⟨rfl,rfl⟩:=he;obtain⟨b',je,rfl⟩:=alg.1 h;cases xs with
   |nil=>have:=hC.len;simp at this
   |cons x xs=>
    have hx:x=.int .u8 n∧(Lit.int .u8 n).wf=true:=by
     have:=hC.rep 0 _ 0 _ x rfl rfl rfl;cases this with
     |int hw=>exact⟨rfl,hw⟩
    obtain⟨rfl,hw⟩:=hx;have hC':Cells P μ 1 es xs:=⟨by have:=hC.len;simp at this⊢;omega,fun i e hi=>hC.each (i+1) e (by simpa using hi),fun i e j p y hi hj hy=>hC.rep (i+1) e j p y (by simpa using hi) hj (by grind),fun i y hy=>hC.one (i+1) y (by simpa using hy)⟩;obtain⟨h1,h2⟩:=KT je hC';refine⟨by simp[h1],?_⟩;rw[alu,←h2];rw[yt]at hw;grind [IntKind.min,IntKind.max,IntKind.signed,IntKind.bits,UInt8.ofNat,UInt8.toNat_ofNat']
  ·cases h
theorem UY{s d:TypeId}{a:V}{m:Mem}{k:PV→bD→Option R}{r:R}(h:E0 E s d a m k=some r):∃q ft,(∀m2:Mem,(∀x∈ft,m2 x.2=m x.2)→∀(R':Type)(k':PV→bD→Option R'),E0 E s d a m2 k'=k' q ft)∧k q ft=some r∧(∀x∈ft,x.1=false)∧∀(G:Nat→Option (List PV))(w0:bE)(μ:Ro)(φ:Nat→aI)(w:World)(x:Value),aA E.P G w0 μ φ m w→an E.P μ φ a x→∃z,(convert s d x).run E.P w=.ok z w∧ao E.P μ q z:=by
 unfold E0 at h;split at h
 ·rename_i e hs hd;split at h
  ·rename_i es ft hu KI;obtain⟨b,hb,hk⟩:=M1.1 h;obtain⟨e1,e2,e3⟩:=pU KI;refine⟨.str b,ft,fun m2 cS R' k'=>by simp_all[E0,alr],hk,e2,fun G w0 μ φ w x hM hx=>?_⟩;have CO:=e3 _ _ _ _ _ _ _ hM hx;cases CO with
   |none he=>subst he;simp only[EZ,By]at hb;subst hb;exact⟨_,by simp[convert,run_underlying hs,run_underlying hd,run_underlying hu,Conv.bytesToString];rfl,.str (by decide)⟩
   | @some a c xs hC hc hl hm=>obtain⟨h1,h2⟩:=KT hb hC;subst h2;rw[←h1];refine⟨_,run_convert_bytes_back w s d e a c b hs hu hd fun j hj=>hc j _ (by grind),.str (by omega)⟩
  ·cases h
 ·rename_i zT;obtain⟨q,q1,q2,q3⟩:=Xg h;refine⟨q,[],fun m2 _ R' k'=>?_,q2,by simp,fun G w0 μ φ w x _ hx=>q3 μ φ w x hx⟩;simp_all[E0,absurd]
end
structure yD(E:Env)(draw:Bool)(site:Nat)(o:Oper)(f:Fr)(m:Mem)(v:V)(f':Fr)(m':Mem)(ft:bD):Prop where
 drawn:draw=true→f'=f∧∃wr:List (Nat×bK),m'=xw wr m∧(∀x∈wr,(true,x.1)∈ft)∧∀(f2:Fr)(m2:Mem),(∀x∈o.op.operands,bG E f2 x=bG E f x)→(∀x∈ft,m2 x.2=m x.2)→∀(R':Type)(k':V→Fr→Mem→bD→Option R'),cG E true site o f2 m2 k'=k' v f2 (xw wr m2) ft
 same:fv o=true→(∀x∈ft,x.1=false)→f'=f∧m'=m
 sound:∀(w0:bE)(μ:Ro)(φ:Nat→aI)(a:Act)(w:World)(K:Act→World→Prop)(Q:Exit→Act→World→Prop),Rel E.P E.aM E.fn.ntmps w0 μ φ f m a w→(∀y w' μ' φ',aA E.P E.aM w0 μ' φ' m' w'→cg E.P μ' φ' m' f' (bY E.fn.ntmps w0 a)→an E.P μ' φ' v y→(∀id,v.has id=true→(m' id).isSome=true)→K (a.put o.dst y) w')→o.wp E.P a w K Q
def FR(rd:Option Nat):Fence:={Fence.wide with round:=rd}
variable{rd:Option Nat}{P:Program}
theorem FR.abB{m m':Machine}:StepsIn (Machine.fenced P (FR rd)) P m m'↔Steps P m m':=stepsIn_wide (P:=P)
variable{args:Array Value}{w:World}{R:Ending→World→Prop}
theorem FR.Sy{n:Nat}{f:FuncId}(h:Calls P f args w R):CallsIn (FR rd) n P f args w R:=(callsIn_wide (n:=n)).2 h
theorem FR.adS{n:Nat}{row:String}{R:Value→World→Prop}(h:Rows P row args w R):RowsIn (FR rd) n P row args w R:=fun c cs _=>let⟨v,w',r,s⟩:=h c cs;⟨v,w',r,FR.abB.2 s⟩
theorem FR.abC{n n':Nat}{l:Nat}{f:FuncId}{tmps:Array Value}{assign body:Code}(h:RoundIn Fence.wide n P l f tmps assign body w R):RoundIn (FR rd) n' P l f tmps assign body w R:=⟨trivial,fun c cs _=>h.2 c cs (room_wide _)⟩
theorem Ff{o:Oper}{a:Act}{K:Act→World→Prop}{Q:Exit→Act→World→Prop}(hd:∀c,o.op≠.defer c)(h:o.wp P a w K Q):o.wpIn (FR rd) 0 P a w K Q:=by
 refine⟨fun _ _=>trivial,?_⟩;rw[Oper.semAt_eq _ _ _ hd];unfold Oper.wp at h;cases hr:(execOp a.eval o).run P w with
 |ok nx w'=>
  rw[hr]at h;cases nx with
  |value v=>exact h
  |skip=>exact h
  |defer d=>exact h
  |enter f args=>exact⟨fun h=>(by cases h),FR.Sy h⟩
  |row row args=>exact⟨fun h=>(by cases h),FR.adS h⟩
  |_=>exact h.elim
 |halt h' w'=>
  rw[hr]at h;cases h' with
  |panic v=>exact h
  |_=>exact h.elim
def Ig{R:Type}(E:Env)(o:Oper)(f:Fr)(m:Mem)(k:V→Fr→Mem→bD→Option R)(r:R):Prop:=
 (∀c x y,o.op≠.pick c x y)∧
 ∀(rd:Option Nat)(w0:bE)(μ:Ro)(φ:Nat→aI)(a:Act)(w:World)(K:Act→World→Prop)(Q:Exit→Act→World→Prop),xC E.P E.aM E.fn.ntmps E.yl w0→Rel E.P E.aM E.fn.ntmps w0 μ φ f m a w→(∀v f' m' y w' μ' φ',k v f' m' [(true,0)]=some r→aA E.P E.aM w0 μ' φ' m' w'→cg E.P μ' φ' m' f' (bY E.fn.ntmps w0 a)→an E.P μ' φ' v y→(∀id,v.has id=true→(m' id).isSome=true)→K (a.put o.dst y) w')→o.wpIn (FR rd) 0 E.P a w K Q
section
variable {R:Type} {E:Env}
variable{w0:bE}{μ:Ro}{φ:Nat→aI}{f:Fr}{m:Mem}{a:Act}{w:World}
theorem Rel.kP(h:Rel E.P E.aM E.fn.ntmps w0 μ φ f m a w):cg E.P μ φ m f (bY E.fn.ntmps w0 a):=⟨h.fr,h.live⟩
variable{P:Program}{o:Oper}{K:Act→World→Prop}{Q:Exit→Act→World→Prop}
theorem fU{w':World}{y:Value}(hr:(execOp a.eval o).run P w=.ok (.value y) w')(h:K (a.put o.dst y) w'):o.wp P a w K Q:=by unfold Oper.wp;rw[hr];exact h
theorem An{w':World}(hr:(execOp a.eval o).run P w=.ok .skip w')(h:K (a.put o.dst undef) w'):o.wp P a w K Q:=by unfold Oper.wp;rw[hr];exact h
variable{draw:Bool}{site:Nat}{v:V}
theorem yD.read{ft:bD}(nat:∀(f2:Fr)(m2:Mem),(∀x∈o.op.operands,bG E f2 x=bG E f x)→(∀x∈ft,m2 x.2=m x.2)→∀(R':Type)(k':V→Fr→Mem→bD→Option R'),cG E true site o f2 m2 k'=k' v f2 m2 ft)(hs:∀(w0:bE)(μ:Ro)(φ:Nat→aI)(a:Act)(w:World),Rel E.P E.aM E.fn.ntmps w0 μ φ f m a w→∃y,(execOp a.eval o).run E.P w=.ok (.value y) w∧an E.P μ φ v y∧∀id,v.has id=true→(m id).isSome=true):yD E draw site o f m v f m ft:=by refine⟨fun _=>⟨rfl,[],rfl,by simp,nat⟩,fun _ _=>⟨rfl,rfl⟩,fun w0 μ φ a w K Q hR hK=>?_⟩;obtain⟨y,hr,hy,hl⟩:=hs w0 μ φ a w hR;exact fU hr (hK y w μ φ hR.toaA hR.kP hy hl)
variable{m':Mem}
theorem yD.make{f':Fr}{b:bK}(hd:draw=true→m site=none∧f'=f∧m'=aw m site b)(nat:draw=true→∀(f2:Fr)(m2:Mem),(∀x∈o.op.operands,bG E f2 x=bG E f x)→m2 site=none→∀(R':Type)(k':V→Fr→Mem→bD→Option R'),cG E true site o f2 m2 k'=k' v f2 (aw m2 site b) [(true,site)])(hs:∀(w0:bE)(μ:Ro)(φ:Nat→aI)(a:Act)(w:World),Rel E.P E.aM E.fn.ntmps w0 μ φ f m a w→∃y w' μ' φ',(execOp a.eval o).run E.P w=.ok (.value y) w'∧aA E.P E.aM w0 μ' φ' m' w'∧cg E.P μ' φ' m' f' (bY E.fn.ntmps w0 a)∧an E.P μ' φ' v y∧∀id,v.has id=true→(m' id).isSome=true):yD E draw site o f m v f' m' [(true,site)]:=by
 refine⟨fun h=>?_,fun _ h=>by simp_all,fun w0 μ φ a w K Q hR hK=>?_⟩
 ·obtain⟨h1,h2,h3⟩:=hd h;exact⟨h2,[(site,b)],h3,by simp,fun f2 m2 hf hm R' k'=>nat h f2 m2 hf (by simp_all) R' k'⟩
 grind [fU]
variable{args:Array Operand}
theorem lP(h:Rel E.P E.aM E.fn.ntmps w0 μ φ f m a w):(args.toList.map (bG E f)).length=(args.map a.eval).size∧∀(i:Nat)v x,(args.toList.map (bG E f))[i]?=some v→(args.map a.eval)[i]?=some x→an E.P μ φ v x:=by refine⟨by simp,fun i v x hv hx=>?_⟩;simp only[IS,alg]at hv;obtain⟨o,ho,rfl⟩:=hv;grind [Option.some.injEq,av]
theorem tF(h:Rel E.P E.aM E.fn.ntmps w0 μ φ f m a w){args:List Operand}{id:Nat}(hid:cu id (args.map (bG E f))=true):(m id).isSome=true:=by obtain⟨v,hv,hh⟩:=cN.1 hid;obtain⟨o,_,rfl⟩:=alC.1 hv;exact(av h o).2 id hh
theorem qz{f2:Fr}{l:List Operand}(h:∀x∈l,bG E f2 x=bG E f x):l.map (bG E f2)=l.map (bG E f):=alQ h
theorem vF{f2:Fr}{l:List (Nat×Operand)}(h:∀x∈l,bG E f2 x.2=bG E f x.2):(l.map fun(x:Nat×Operand)=>(x.1,bG E f2 x.2))=l.map fun(x:Nat×Operand)=>(x.1,bG E f x.2):=alQ fun x hx=>by rw[h x hx]
variable{g:FuncId}
theorem BR{fn:Func}{c:Code}(hf:P.funcs[g]?=some fn)(ac2:(fn.name== "runtime.NumGoroutine")=false)(hb:fn.body=some c){args:Array Value}:(callFunc g args).run P w=.ok (.enter g args) w:=by simp_all[callFunc]
theorem ue{b:Bool}{x:Value}(h:an P μ φ (.pv (.bool b)) x):x=.bool b:=by cases h with|pv h=>cases h;rfl
theorem XI{p:PV}(h:Hs dc v=some (p,m'))(m:Mem):Hs m v=some (p,m):=by unfold Hs at h⊢;grind [Option.some.injEq,Prod.mk.injEq,dc]
theorem Fg:∀{cs:List V}{ps:List PV}{m':Mem},np dc cs=some (ps,m')→∀m:Mem,np m cs=some (ps,m)
 |[],ps,m',h,m=>by simp only[np,By,akj]at h;rw[←h.1];rfl
 |c::r,ps,m',h,m=>by
  simp only[np]at h;split at h
  ·rename_i p m1 h1;have e1:=tY h1;subst e1;split at h
   ·rename_i ps1 m2 h2;simp only[By,akj]at h;simp only[np,XI h1 m,Fg h2 m,h.1]
   ·cases h
  ·cases h
theorem Gu:∀{cs:List V}{ps:List PV}{m':Mem},np dc cs=some (ps,m')→m'=dc
 |[],ps,m',h=>by simp_all[np,By,akj]
 |c::r,ps,m',h=>by
  simp only[np]at h;split at h
  ·rename_i p m1 h1;have e1:=tY h1;subst e1;split at h
   ·rename_i ps1 m2 h2;simp only[By,akj]at h;rw[←h.2];exact Gu h2
   ·cases h
  ·cases h
theorem NP{n:Nat}{agg:Bool}{p:PV}(h:kJ dc n agg v=some (p,m')):m'=dc∧∀m:Mem,kJ m n agg v=some (p,m):=by
 unfold kJ at h;split at h
 ·rename_i cs hc;split at h
  ·rename_i ps m1 h1;have e1:=Gu h1;subst e1;cases agg with
   |true=>simp only[IT,By,akj]at h;refine⟨h.2.symm,fun m=>?_⟩;unfold kJ;simp only[hc,Fg h1 m,IT,h.1]
   |false=>
    simp only[IN,Wi]at h;split at h
    ·simp only[By,akj]at h;refine⟨h.2.symm,fun m=>?_⟩;unfold kJ;simp only[hc,Fg h1 m,IN,Wi,h.1]
    ·cases h
  ·cases h
 ·cases h
theorem uf{n:Nat}{agg:Bool}:∀{parts:List (Nat×V)}{i:Nat}{ps:List PV}{m':Mem},fl dc n agg i parts=some (ps,m')→m'=dc∧∀m:Mem,fl m n agg i parts=some (ps,m)
 |[],i,ps,m',h=>by simp_all[fl,By,akj]
 |(j,v)::r,i,ps,m',h=>by
  simp only[fl]at h;split at h
  ·rename_i St;split at h
   ·rename_i p m1 h1;obtain⟨e1,e2⟩:=NP h1;subst e1;split at h
    ·rename_i ps1 m2 h2;obtain⟨e3,e4⟩:=uf h2;simp_all[By,akj,fl,T0]
    ·cases h
   ·cases h
  ·cases h
def D5(g:FuncId)(xs ys:Array Value):Array Value:=bif Nat.blt g Hr then ys++xs else xs++ys
theorem Sz{caps args:List V}{xs ys:Array Value}(e1:args.length=ys.size)(h1:∀(i:Nat)v x,args[i]?=some v→ys[i]?=some x→an P μ φ v x)(e2:caps.length=xs.size)(h2:∀(i:Nat)v x,caps[i]?=some v→xs[i]?=some x→an P μ φ v x):(CG g caps args).length=(D5 g xs ys).size∧∀(i:Nat)v x,(CG g caps args)[i]?=some v→(D5 g xs ys)[i]?=some x→an P μ φ v x:=by unfold CG D5;grind
theorem XJ{caps args:List V}(h:v∈CG g caps args):v∈args∨v∈caps:=by unfold CG at h;grind
theorem XK(g:FuncId)(xs:Array Value):DU (g+Hr) xs=.func (.func g) xs #[]:=by simp[DU,acB,Nat.le_add_left,amE]
theorem yE{site:Nat}:∀{ts:List TypeId}{j:Nat}{F:Fr}{m:Mem}{k:Fr→Mem→Option R}{r:R},BC E site ts j F m k=some r→∃F' m',k F' m'=some r∧∀(G:Nat→Option (List PV))(w0:bE)(μ:Ro)(φ:Nat→aI)(w:World)(ρ:Nat→Value),aA E.P G w0 μ φ m w→cg E.P μ φ m F ρ→∃φ',aA E.P G w0 μ φ' m' w∧cg E.P μ φ' m' F' ρ
 |[],j,F,m,k,r,h=>⟨F,m,h,fun G w0 μ φ w ρ hM hF=>⟨φ,hM,hF⟩⟩
 |t::ts,j,F,m,k,r,h=>by
  simp only[BC]at h;split at h
  ·rename_i hj;split at h
   ·rename_i e hu;split at h
    ·rename_i ez;obtain⟨f1,m1,hn,hk,zS,Ai,zG⟩:=cv h;obtain⟨F',m',c1,c2⟩:=yE hk;refine⟨F',m',c1,fun G w0 μ φ w ρ hM hF=>?_⟩;obtain⟨φ',a1,a2,a3⟩:=zG E.P G w0 μ φ w w ρ (G0 none 0 0 (aV E.P e)) hM hF ⟨lL.refl _ _,hM.ro,fun _ _ _ _ _=>rfl,by simp,fun φ' hp _=>by refine⟨by rw[hp];rfl,by rw[hp],rfl,ez,by simp,by rw[hp];simp[maxLen],?_⟩;simp_all,by simp[bK.names],fun st h=>by cases h⟩;have hv:ρ j=.slice none 0 0:=by have:=hF.fr j;rw[hj]at this;generalize ρ j=y at this;cases this;rfl
     refine c2 G w0 μ φ' w ρ a2 ⟨fun s=>?_,fun s id hid=>?_⟩
     ·by_cases e:s=j
      ·subst e;rw[show gy f1 s (.os (xz site s)) s=.os (xz site s) by simp_all,hv];exact .vt (by rw[a1])
      ·rw[tV e];exact a3.fr s
     ·by_cases e:s=j
      ·subst e;rw[show gy f1 s (.os (xz site s)) s=.os (xz site s) by simp_all]at hid;have hid:=acA hid;subst hid;simp[zS]
      ·rw[tV e]at hid;exact a3.live s id hid
    ·cases h
   ·cases h
  ·exact yE h
variable{k:V→Fr→Mem→bD→Option R}{r:R}
theorem abD(hE:ku E)(h:cG E draw site o f m k=some r)(hc:∀c,o.op≠.call c)(hb:∀op t x y ty s es,o.op=.binOp op t x y ty→bG E f x=.pv (.rs s es)→bG E f y≠.fO)(hit:P5 o.op=false):∃v f' m' ft,k v f' m' ft=some r∧yD E draw site o f m v f' m' ft:=by
 obtain⟨dst,op,type,pos,after,guard⟩:=o;unfold cG at h;cases op<;>simp only at h;case move x=>refine⟨_,_,_,_,h,.read (fun f2 m2 hf _ R' k'=>by simp only[cG];rw[hf x (by simp[Op.operands])]) fun w0 μ φ a w hR=>⟨_,rfl,(av hR x).1,(av hR x).2⟩⟩
 case pick c x y=>
  split at h
  ·rename_i t hc;cases t with
   |true=>simp only[IT]at h;refine⟨_,_,_,_,h,.read (fun f2 m2 hf _ R' k'=>by simp only[cG];rw[hf c (by simp[Op.operands]),hf x (by simp[Op.operands]),hc];simp) fun w0 μ φ a w hR=>?_⟩;have h1:=(av hR c).1;rw[hc]at h1;exact⟨a.eval x,by simp[execOp,Go.asBool,ue h1],(av hR x).1,(av hR x).2⟩
   |false=>simp only[IN,Wi]at h;refine⟨_,_,_,_,h,.read (fun f2 m2 hf _ R' k'=>by simp only[cG];rw[hf c (by simp[Op.operands]),hf y (by simp[Op.operands]),hc];simp) fun w0 μ φ a w hR=>?_⟩;have h1:=(av hR c).1;rw[hc]at h1;exact⟨a.eval y,by simp[execOp,Go.asBool,ue h1],(av hR y).1,(av hR y).2⟩
  ·cases h
 case assign x=>
  have mk:∀{v},bG E f x=v→(v=.fO→∀e,E.P.underlying type≠some (.slice e))→k v f m []=some r→∃v f' m' ft,k v f' m' ft=some r∧yD E draw site {dst,op:=.assign x,type,pos,after,guard} f m v f' m' ft:=by
   intro v hv cC hk;refine⟨v,f,m,[],hk,.read (fun f2 m2 hf _ R' k'=>?_) fun w0 μ φ a w hR=>⟨_,rfl,hv▸(av hR x).1,hv▸(av hR x).2⟩⟩;simp only[cG];rw[hf x (by simp[Op.operands]),hv];cases v<;>try rfl
   simp only;split
   ·rename_i e hu;exact absurd hu (cC rfl e)
   ·rfl
  split at h
  ·rename_i hx;split at h
   ·rename_i e hu;split at h
    ·rename_i ez;obtain⟨f',m',hn,hk,zS,Ai,zG⟩:=cv h;refine⟨_,_,_,_,hk,.make Ai (fun _ f2 m2 hf hs R' k'=>?_) fun w0 μ φ a w hR=>?_⟩
     ·simp only[cG];rw[hf x (by simp[Op.operands]),hx];simp only[hu,ez,IT,fresh,hs]
     ·have h1:=(av hR x).1;rw[hx]at h1;obtain⟨φ',a1,a2,a3⟩:=zG E.P E.aM w0 μ φ w w _ (G0 none 0 0 (aV E.P e)) hR.toaA hR.kP ⟨lL.refl _ _,hR.ro,fun _ _ _ _ _=>rfl,by simp,fun φ' hp _=>by refine⟨by rw[hp];rfl,by rw[hp],rfl,ez,by simp,by rw[hp];simp[maxLen],?_⟩;rw[hp];exact⟨rfl,rfl⟩,by simp[bK.names],fun st h=>by cases h⟩;refine⟨.slice none 0 0,w,μ,φ',?_,a2,a3,.vt (by rw[a1]),fun id hid=>?_⟩
      ·simp only[execOp,Sem.run_pure];generalize a.eval x=y at h1;cases h1;rfl
      ·have hid:=acA hid;subst hid;simp[zS]
    ·cases h
   ·rename_i hu;exact mk hx (fun _ e he=>hu e he) h
  ·rename_i hx;exact mk rfl (fun he=>absurd he hx) h
 case alloc t=>
  split at h
  ·rename_i cs hz;obtain⟨i,zv,z1,z2,z3,z4,z5,z6,z7,z8⟩:=eK hz;cases LV:E.EW site with
   |true=>
    rw[LV]at h;simp only[cond_true]at h;split at h
    ·rename_i n e ps hu rT;split at h
     ·rename_i hcc;obtain⟨ha,hl,ez,ajw⟩:=hcc;obtain⟨f',m',hn,hk,zS,Ai,zG⟩:=cv h;obtain⟨q1,q2⟩:=gX rT;have xJ:(pQ (aV E.P e) n (.agg ps)).length=n:=by simp[pQ]
      refine⟨_,_,_,_,hk,.make Ai (fun _ f2 m2 hf hs R' k'=>by simp only[cG,hz,LV,hu,rT,cond_true];rw[T0 ⟨ha,hl,ez,ajw⟩];simp only[fresh,hs]) fun w0 μ φ a w hR=>?_⟩;have nq:ao E.P μ (.agg ps) (.agg zv.cells):=.agg (by omega) (fun i p x hp hx=>by obtain⟨v,hv,hpo⟩:=q2 i p hp;have:=z7 μ φ i v x hv hx;cases v<;>simp[WE]at hpo;subst hpo;cases this with|pv h=>exact h) z8;have hC:Cells E.P μ (aV E.P e) (pQ (aV E.P e) n (.agg ps)) (zv.cells.toList.take ((pQ (aV E.P e) n (.agg ps)).length*aV E.P e)):=by
       refine⟨by rw[xJ];simp;omega,fun i e' UU=>?_,fun i e' j p y hi hj hy=>?_,fun i y hy=>z8 i y (by simpa using(iF hy).2)⟩
       ·obtain⟨_,rfl⟩:=CN UU;exact wB
       ·obtain⟨x',x1,x2,_⟩:=KH (k:=i*aV E.P e+j) nq (by omega) hi hj rfl;have:=(iF hy).2;rw[al3,x1]at this;cases this;exact x2
      obtain⟨φ',a1,a2,a3⟩:=zG E.P E.aM w0 μ φ w _ _ (G0 (some w.heap.size) n (pQ (aV E.P e) n (.agg ps)).length (aV E.P e)) hR.toaA hR.kP (lB.alloc (o:=.cells zv.cells t) hR.toaA rfl (fun φ' hp _=>aN.rA (g:=w.heap.size) (by rw[hp]) rfl ez (by rw[hp];simp only[maxLen,G0];omega) (fP w _) (by rw[hp];simp only[G0];omega) (by rw[hp,xJ];exact alz _) hC) (by simp[bK.names]));refine⟨.pointer (some ⟨w.heap.size,0,none⟩),w.alloc (.cells zv.cells t),μ,φ',by simp[execOp,E9 z1 z2],a2,a3,?_,fun id hid=>?_⟩
      ·have:=an.oe (P:=E.P) (μ:=μ) (φ:=φ') (id:=site) (i:=0) (off:=0) (g:=w.heap.size) (by rw[a1]);simpa using this
      ·have hid:=acA hid;subst hid;simp[zS]
     ·cases h
    ·cases h
   |false=>
   rw[LV]at h;simp only[cond_false]at h;split at h
   ·rename_i XL;have hdf:draw=false:=by simp only[ale,alZ]at XL;exact XL.1
    obtain⟨F,m1,g1,g2⟩:=yE h;obtain⟨f',m',hn,hk,zS,Ai,zG⟩:=cv g1;refine⟨_,_,_,_,hk,⟨fun hd=>(by rw[hdf]at hd;cases hd),fun _ h=>(by have:=h (true,site) (by simp);cases this),fun w0 μ φ a w K Q hR hK=>?_⟩⟩;have x1:cs.length=zv.cells.size:=by omega
    have x2:=z7 μ φ;have x3:=z8;have hF0:cg E.P μ φ m (zt cs.length cs f) (fun t=>if t<cs.length then zv.cells.getD t undef else bY E.fn.ntmps w0 a (t-cs.length)):=by
     refine⟨fun t=>?_,fun t id hid=>?_⟩
     ·unfold zt;by_cases ht:t<cs.length
      ·rw[show Nat.blt t cs.length=true by rw[amt];exact ht,T0 ht];show an E.P μ φ (cs.getD t .top) _;have hx:t<zv.cells.size:=by omega
       rw[show cs.getD t .top=cs[t] by simp[List.getD,ht],show zv.cells.getD t undef=zv.cells[t] by simp[Array.getD,hx]];exact x2 t _ _ (AI ht) (ald hx)
      ·rw[show Nat.blt t cs.length=false by rw[←amf,amt];exact ht,acB ht];exact hR.kP.fr _
     ·unfold zt at hid;cases e:Nat.blt t cs.length with
      |true=>
       rw[e]at hid;have ht:t<cs.length:=by rwa[amt]at e
       have hid:(cs.getD t .top).has id=true:=hid;rw[show cs.getD t .top=cs[t] by simp[List.getD,ht]]at hid;exact absurd (bO (alj ht) hid) (by rw[z6];simp)
      |false=>rw[e]at hid;exact hR.kP.live _ id hid
    obtain⟨φ1,yA,G3⟩:=g2 E.aM w0 μ φ w _ hR.toaA hF0;have hF2:cg E.P μ φ1 m1 (zX cs.length F) (bY E.fn.ntmps w0 a):=by refine⟨fun t=>?_,fun t id hid=>G3.live _ id hid⟩;have:=G3.fr (t+cs.length);rw[acB (by omega),amE]at this;exact this
    have JZ:∀(i:Nat)u y,((List.range cs.length).map F)[i]?=some u→zv.cells[i]?=some y→an E.P μ φ1 u y:=fun i u y hu hy=>by
     have hi:i<cs.length:=by have:=(OF.1 hu).1;simpa using this
     have tU:F i=u:=by simpa[hi]using hu
     have:=G3.fr i;rw[T0 hi,tU,show zv.cells.getD i undef=y by simp[alD,hy]]at this;exact this
    obtain⟨φ',a1,a2,a3⟩:=zG E.P E.aM w0 μ φ1 w _ _ _ yA hF2 (lB.box (T:=t) yA (c:=zv.cells) (by simp;omega) JZ x3 (fun id hid=>by obtain⟨u,hu,hh⟩:=cN.1 hid;obtain⟨i,_,rfl⟩:=alC.1 hu;exact G3.live i id hh));refine fU (y:=.pointer (some ⟨w.heap.size,0,none⟩)) (w':=w.alloc (.cells zv.cells t)) (by simp[execOp,E9 z1 z2]) (hK _ _ μ φ' a2 a3 (.op (by rw[a1])) fun id hid=>?_);have hid:=acA hid;subst hid;simp[zS]
   rename_i XL;have h:fresh draw site (.box cs) f m (fun f m ft=>k (.op site 0) f m ft)=some r:=h;obtain⟨f',m',hn,hk,zS,Ai,zG⟩:=cv h;refine⟨_,_,_,_,hk,.make Ai (fun _ f2 m2 hf hs R' k'=>by simp only[cG,hz,LV,cond_false,fresh,hs,alc,amS,IN,Wi]) fun w0 μ φ a w hR=>?_⟩;obtain⟨φ',a1,a2,a3⟩:=zG E.P E.aM w0 μ φ w _ _ _ hR.toaA hR.kP (lB.box (T:=t) hR.toaA (c:=zv.cells) (by omega) (z7 μ φ) z8 (fun id hid=>by rw[z6]at hid;cases hid));refine⟨.pointer (some ⟨w.heap.size,0,none⟩),w.alloc (.cells zv.cells t),μ,φ',by simp[execOp,E9 z1 z2],a2,a3,.op (by rw[a1]),fun id hid=>?_⟩;have hid:=acA hid;subst hid;simp[zS]
  ·cases h
 case box t x=>
  split at h
  ·rename_i cs hc;obtain⟨n1,n2,n3⟩:=toCells_ok hc;split at h
   ·rename_i XL;have hdf:draw=false:=by simp only[ale,alZ]at XL;exact XL.1
    split at h
    ·rename_i ts hts;split at h
     ·rename_i hlen;obtain⟨F,m1,g1,g2⟩:=yE h;obtain⟨f',m',hn,hk,zS,Ai,zG⟩:=cv g1;refine⟨_,_,_,_,hk,⟨fun hd=>(by rw[hdf]at hd;cases hd),fun _ h=>(by have:=h (true,site) (by simp);cases this),fun w0 μ φ a w K Q hR hK=>?_⟩⟩;obtain⟨h1,h2⟩:=av hR x;obtain⟨x1,x2,x3⟩:=n3 _ _ _ _ h1;have hF0:cg E.P μ φ m (zt cs.length cs f) (fun t=>if t<cs.length then(a.eval x).cells.getD t undef else bY E.fn.ntmps w0 a (t-cs.length)):=by
       refine⟨fun t=>?_,fun t id hid=>?_⟩
       ·unfold zt;by_cases ht:t<cs.length
        ·rw[show Nat.blt t cs.length=true by rw[amt];exact ht,T0 ht];show an E.P μ φ (cs.getD t .top) _;have hx:t<(a.eval x).cells.size:=by omega
         rw[show cs.getD t .top=cs[t] by simp[List.getD,ht],show(a.eval x).cells.getD t undef=(a.eval x).cells[t] by simp[Array.getD,hx]];exact x2 t _ _ (AI ht) (ald hx)
        ·rw[show Nat.blt t cs.length=false by rw[←amf,amt];exact ht,acB ht];exact hR.kP.fr _
       ·unfold zt at hid;cases e:Nat.blt t cs.length with
        |true=>
         rw[e]at hid;have ht:t<cs.length:=by rwa[amt]at e
         have hid:(cs.getD t .top).has id=true:=hid;rw[show cs.getD t .top=cs[t] by simp[List.getD,ht]]at hid;exact h2 id (n2 id (bO (alj ht) hid))
        |false=>rw[e]at hid;exact hR.kP.live _ id hid
      obtain⟨φ1,yA,G3⟩:=g2 E.aM w0 μ φ w _ hR.toaA hF0;have hF2:cg E.P μ φ1 m1 (zX cs.length F) (bY E.fn.ntmps w0 a):=by refine⟨fun t=>?_,fun t id hid=>G3.live _ id hid⟩;have:=G3.fr (t+cs.length);rw[acB (by omega),amE]at this;exact this
      have JZ:∀(i:Nat)u y,((List.range cs.length).map F)[i]?=some u→(a.eval x).cells[i]?=some y→an E.P μ φ1 u y:=fun i u y hu hy=>by
       have hi:i<cs.length:=by have:=(OF.1 hu).1;simpa using this
       have tU:F i=u:=by simpa[hi]using hu
       have:=G3.fr i;rw[T0 hi,tU,show(a.eval x).cells.getD i undef=y by simp[alD,hy]]at this;exact this
      obtain⟨φ',a1,a2,a3⟩:=zG E.P E.aM w0 μ φ1 w _ _ _ yA hF2 (lB.box (T:=t) yA (c:=(a.eval x).cells) (by simp;omega) JZ x3 (fun id hid=>by obtain⟨u,hu,hh⟩:=cN.1 hid;obtain⟨i,_,rfl⟩:=alC.1 hu;exact G3.live i id hh));refine fU (y:=.pointer (some ⟨w.heap.size,0,none⟩)) (w':=w.alloc (.cells (a.eval x).cells t)) (by simp[execOp,Sn]) (hK _ _ μ φ' a2 a3 (.op (by rw[a1])) fun id hid=>?_);have hid:=acA hid;subst hid;simp[zS]
     ·cases h
    ·cases h
   rename_i XL;have h:fresh draw site (.box cs) f m (fun f m ft=>k (.op site 0) f m ft)=some r:=h;have XL:draw=true→(!true&&cs.any WY)=false:=fun _=>rfl;obtain⟨f',m',hn,hk,zS,Ai,zG⟩:=cv h;refine⟨_,_,_,_,hk,.make Ai (fun _ f2 m2 hf hs R' k'=>by simp only[cG];rw[hf x (by simp[Op.operands])];simp only[hc,fresh,hs,alc,amS,IN,Wi]) fun w0 μ φ a w hR=>?_⟩;obtain⟨h1,h2⟩:=av hR x;obtain⟨x1,x2,x3⟩:=n3 _ _ _ _ h1;obtain⟨φ',a1,a2,a3⟩:=zG E.P E.aM w0 μ φ w _ _ _ hR.toaA hR.kP (lB.box (T:=t) hR.toaA (c:=(a.eval x).cells) (by omega) x2 x3 (fun id hid=>h2 id (n2 id hid)));refine⟨.pointer (some ⟨w.heap.size,0,none⟩),w.alloc (.cells (a.eval x).cells t),μ,φ',by simp[execOp,Sn],a2,a3,.op (by rw[a1]),fun id hid=>?_⟩;have hid:=acA hid;subst hid;simp[zS]
  ·cases h
 case build t parts=>obtain⟨v,v1,v2,v3,v4⟩:=UI h;have UT:∀f2:Fr,(∀x∈(Op.build t parts).operands,bG E f2 x=bG E f x)→(parts.toList.map fun(x:Nat×Operand)=>(x.1,bG E f2 x.2))=parts.toList.map fun(x:Nat×Operand)=>(x.1,bG E f x.2):=fun f2 hf=>vF fun x hx=>hf x.2 (by simp only[Op.operands,anl,alC];exact⟨x,hx,rfl⟩);refine⟨_,_,_,_,v2,.read (fun f2 m2 hf _ R' k'=>by simp only[cG];rw[UT f2 hf];exact v1 _ _) fun w0 μ φ a w hR=>?_⟩;obtain⟨z,z1,z2⟩:=v4 μ φ w (parts.map fun(i,x)=>(i,a.eval x)) (by simp) (fun j i v hj=>by simp only[IS,alg]at hj;obtain⟨y,hy,he⟩:=hj;simp only[akj]at he;obtain⟨rfl,rfl⟩:=he;refine⟨a.eval y.2,?_,(av hR y.2).1⟩;rw[Array.getElem?_map,←al3,hy];rfl);refine⟨z,by simp only[execOp,Sem.run_bind,z1,Result.andThen_ok,Sem.run_pure],z2,fun id hid=>?_⟩;have h5:=v3 id hid;rw[am0]at h5;obtain⟨u,hu,hh⟩:=cN.1 h5;obtain⟨y,hy,rfl⟩:=alC.1 hu;exact(av hR y.2).2 id hh
 case load t x=>obtain⟨v,ft,v1,v2,v3,v4⟩:=Ny h;refine⟨_,_,_,_,v2,.read (fun f2 m2 hf hm R' k'=>by simp only[cG];rw[hf x (by simp[Op.operands])];exact v1 m2 hm _ _) fun w0 μ φ a w hR=>?_⟩;obtain⟨y,y1,y2,y3⟩:=v4 _ _ _ _ _ _ hR.toaA (av hR x).1;exact⟨y,by simp[execOp,y1],y2,y3⟩
 case store t x y=>
  obtain⟨m',ft,k1,k2,k3,k4⟩:=UF h;refine⟨_,_,_,_,k1,⟨fun hd=>?_,fun h _=>by(simp[fv]at h),fun w0 μ φ a w K Q hR hK=>?_⟩⟩
  ·obtain⟨id,b,rfl,rfl,d3⟩:=k2 hd;refine⟨rfl,[(id,b)],rfl,by simp,fun f2 m2 hf hm R' k'=>?_⟩;simp only[cG];rw[hf x (by simp[Op.operands]),hf y (by simp[Op.operands])];exact d3 m2 (hm (true,id) (by simp)) _ _
  ·obtain⟨w',μ',s1,s2,s3⟩:=k4 _ _ _ _ _ _ _ hR.toaA (av hR x).1 (av hR y).1 (av hR y).2;exact An (by simp[execOp,s1]) (hK undef w' μ' φ s3 (hR.kP.nP s2 k3) .top (by simp))
 case nilCheck x=>
  have key:∀{v},bG E f x=v→(∀(μ:Ro)(φ:Nat→aI)y,an E.P μ φ v y→(∃ad,y=.pointer (some ad))∨∃g xs ys,y=.func (.func g) xs ys)→k v f m []=some r→(∀(R':Type)(k':V→Fr→Mem→bD→Option R')(f2:Fr)(m2:Mem),bG E f2 x=v→cG E true site {dst,op:=.nilCheck x,type,pos,after,guard} f2 m2 k'=k' v f2 m2 [])→∃v f' m' ft,k v f' m' ft=some r∧yD E draw site {dst,op:=.nilCheck x,type,pos,after,guard} f m v f' m' ft:=by
   intro v hv hp hk hn;refine⟨v,f,m,[],hk,.read (fun f2 m2 hf _ R' k'=>hn R' k' f2 m2 (by rw[hf x (by simp[Op.operands]),hv])) fun w0 μ φ a w hR=>?_⟩;obtain⟨h1,h2⟩:=av hR x;rw[hv]at h1 h2;refine⟨a.eval x,?_,h1,h2⟩;rcases hp μ φ _ h1 with⟨ad,e⟩|⟨g,xs,ys,e⟩
   ·simp only[execOp,e];rfl
   ·simp only[execOp,e];rfl
  split at h
  ·rename_i cs hx;exact key hx (fun μ φ y hy=>by cases hy with|pv hy=>cases hy;exact .inl ⟨_,rfl⟩) h fun R' k' f2 m2 e=>by simp only[cG,e]
  ·rename_i id off hx;exact key hx (fun μ φ y hy=>by cases hy;exact .inl ⟨_,rfl⟩) h fun R' k' f2 m2 e=>by simp only[cG,e]
  ·rename_i id i off hx;exact key hx (fun μ φ y hy=>by cases hy;exact .inl ⟨_,rfl⟩) h fun R' k' f2 m2 e=>by simp only[cG,e]
  ·rename_i id i off s j off2 hx;exact key hx (fun μ φ y hy=>by cases hy;exact .inl ⟨_,rfl⟩) h fun R' k' f2 m2 e=>by simp only[cG,e]
  ·rename_i g cs hx;exact key hx (fun μ φ y hy=>by cases hy;exact .inr (tS _ _)) h fun R' k' f2 m2 e=>by simp only[cG,e]
  ·rename_i g cs hx;exact key hx (fun μ φ y hy=>by cases hy with|pv hy=>cases hy;exact .inr (tS _ _)) h fun R' k' f2 m2 e=>by simp only[cG,e]
  ·cases h
 case binOp op t x y ty=>
  have xG:∀(f2:Fr)(m2:Mem)(R':Type)(k':V→Fr→Mem→bD→Option R')(d:Bool),bG E f2 x=bG E f x→bG E f2 y=bG E f y→cG E d site ⟨dst,.binOp op t x y ty,type,pos,after,guard⟩ f2 m2 k'=Nj E op t y (bG E f x) (bG E f y) fun p=>k' (.pv p) f2 m2 []:=by
   intro f2 m2 R' k' d e1 e2;simp only[cG];rw[e1,e2];split
   ·rename_i s es h1 h2;exact absurd h2 (hb op t x y ty s es rfl h1)
   ·rfl
  have h:cG E draw site ⟨dst,.binOp op t x y ty,type,pos,after,guard⟩ f m k=some r:=by simp only[cG];exact h
  rw[xG f m R k draw rfl rfl]at h;obtain⟨q,q1,q2,q3⟩:=XH h;refine⟨_,_,_,_,q2,.read (fun f2 m2 hf hm R' k'=>by rw[xG f2 m2 R' k' true (hf x (by simp[Op.operands])) (hf y (by simp[Op.operands]))];exact q1 _ _) fun w0 μ φ a w hR=>?_⟩;obtain⟨z,z1,z2⟩:=q3 μ φ w x _ _ (fun hn=>by
   unfold Ht at hn;split at hn
   ·rfl
   ·cases hn) (av hR x).1 (av hR y).1
  exact⟨z,by simp only[wy]at z1;simp only[execOp,Sem.run_bind,Sem.run_pure]at z1⊢;rw[z1];rfl,.pv z2,by simp⟩
 case unOp op t x=>obtain⟨q,q1,q2,q3⟩:=adK h;refine⟨_,_,_,_,q2,.read (fun f2 m2 hf hm R' k'=>by simp only[cG];rw[hf x (by simp[Op.operands])];exact q1 _ _) fun w0 μ φ a w hR=>?_⟩;obtain⟨z,z1,z2⟩:=q3 E.P μ φ w _ (av hR x).1;exact⟨z,by simp[execOp,z1],.pv z2,by simp⟩
 case convert s d x=>obtain⟨q,ft,q1,q2,_,q3⟩:=UY h;refine⟨_,_,_,_,q2,.read (fun f2 m2 hf hm R' k'=>by simp only[cG];rw[hf x (by simp[Op.operands])];exact q1 m2 hm _ _) fun w0 μ φ a w hR=>?_⟩;obtain⟨z,z1,z2⟩:=q3 _ _ μ φ w _ hR.toaA (av hR x).1;exact⟨z,by simp[execOp,z1],.pv z2,by simp⟩
 case fieldAddr s x j=>obtain⟨v,v1,v2,v3,v4⟩:=JT h;refine⟨_,_,_,_,v2,.read (fun f2 m2 hf hm R' k'=>by simp only[cG];rw[hf x (by simp[Op.operands])];exact v1 _ _) fun w0 μ φ a w hR=>?_⟩;obtain⟨z,z1,z2⟩:=v4 μ φ w _ (av hR x).1;exact⟨z,by simp[execOp,z1],z2,fun id hid=>(av hR x).2 id (by rw[←v3];exact hid)⟩
 case field s x j=>obtain⟨v,v1,v2,v3,v4⟩:=Uy h;refine⟨_,_,_,_,v2,.read (fun f2 m2 hf hm R' k'=>by simp only[cG];rw[hf x (by simp[Op.operands])];exact v1 _ _) fun w0 μ φ a w hR=>?_⟩;obtain⟨z,z1,z2⟩:=v4 μ φ w _ (av hR x).1;exact⟨z,by simp[execOp,z1],z2,fun id hid=>(av hR x).2 id (v3 id hid)⟩
 case indexAddr t x ix=>obtain⟨v,ft,v1,v2,v3,v4,v5⟩:=JU h;refine⟨_,_,_,_,v2,.read (fun f2 m2 hf hm R' k'=>by simp only[cG];rw[hf x (by simp[Op.operands]),hf ix (by simp[Op.operands])];exact v1 m2 hm _ _) fun w0 μ φ a w hR=>?_⟩;obtain⟨z,z1,z2⟩:=v5 _ _ μ φ w _ _ hR.toaA (av hR x).1 (av hR ix).1;exact⟨z,by simp[execOp,z1],z2,fun id hid=>(av hR x).2 id (v4 id hid)⟩
 case index t x ix=>obtain⟨v,v1,v2,v3,v4⟩:=Uz h;refine⟨_,_,_,_,v2,.read (fun f2 m2 hf hm R' k'=>by simp only[cG];rw[hf x (by simp[Op.operands]),hf ix (by simp[Op.operands])];exact v1 _ _) fun w0 μ φ a w hR=>?_⟩;obtain⟨z,z1,z2⟩:=v4 μ φ w _ _ (av hR x).1 (av hR ix).1;exact⟨z,by simp[execOp,z1],z2,fun id hid=>(av hR x).2 id (v3 id hid)⟩
 case lookup t x ix ok=>
  split at h
  ·rename_i hn;have gT:ok=false:=by cases ok<;>simp at hn⊢
   subst gT;obtain⟨id,b1,b2,m',rfl,hk,hs,vE,PL,hid,Qf,adT⟩:=Xy h;refine⟨_,_,_,_,hk,⟨fun hd=>⟨rfl,[(id,b1),(site,b2)],rfl,by simp,fun f2 m2 hf hm R' k'=>?_⟩,fun _ h=>absurd (h (true,id) (by simp)) (by simp),fun w0 μ φ a w K Q hR hK=>?_⟩⟩
   ·simp only[cG];rw[T0 hn,hf x (by simp[Op.operands]),hf ix (by simp[Op.operands])];exact Qf m2 (hm (true,id) (by simp)) (by rw[hm (true,site) (by simp)];exact hs) _ _
   ·obtain⟨u,φ',u1,u2,u3,u4⟩:=adT _ _ _ _ _ _ _ _ _ hR.toaA hR.kP (av hR x).1 (av hR ix).1;exact fU (y:=u) (w':=w) (by simp[execOp,u1]) (hK u w μ φ' u2 u3 u4 fun j hj=>by have hj:=acA hj;subst hj;simp[xw])
  rename_i hn;obtain⟨v,ft,v1,v2,v3,v4,v5⟩:=Qi h;refine⟨_,_,_,_,v2,.read (fun f2 m2 hf hm R' k'=>by simp only[cG];rw[acB hn,hf x (by simp[Op.operands]),hf ix (by simp[Op.operands])];exact v1 m2 hm _ _) fun w0 μ φ a w hR=>?_⟩;obtain⟨z,z1,z2⟩:=v5 _ _ μ φ w _ _ hR.toaA (av hR x).1 (av hR ix).1;exact⟨z,by simp[execOp,z1],z2,fun id hid=>by rw[v4]at hid;cases hid⟩
 case mapUpdate t x key val=>
  obtain⟨m',ft,k1,k2,k3,k4⟩:=Ct h;refine⟨_,_,_,_,k1,⟨fun hd=>?_,fun h _=>by(simp[fv]at h),fun w0 μ φ a w K Q hR hK=>?_⟩⟩
  ·obtain⟨id,b,rfl,rfl,d3⟩:=k2 hd;refine⟨rfl,[(id,b)],rfl,by simp,fun f2 m2 hf hm R' k'=>?_⟩;simp only[cG];rw[hf x (by simp[Op.operands]),hf key (by simp[Op.operands]),hf val (by simp[Op.operands])];exact d3 m2 (hm (true,id) (by simp)) _ _
  ·obtain⟨w',μ',s1,s2,s3⟩:=k4 _ _ _ _ _ _ _ _ hR.toaA (av hR x).1 (av hR key).1 (av hR val).1;exact An (by simp[execOp,s1]) (hK undef w' μ' φ s3 (hR.kP.nP s2 k3) .top (by simp))
 case insert t x key val=>
  obtain⟨m',ft,k1,k2,k3,k4⟩:=Ct h;refine⟨_,_,_,_,k1,⟨fun hd=>?_,fun h _=>by(simp[fv]at h),fun w0 μ φ a w K Q hR hK=>?_⟩⟩
  ·obtain⟨id,b,rfl,rfl,d3⟩:=k2 hd;refine⟨rfl,[(id,b)],rfl,by simp,fun f2 m2 hf hm R' k'=>?_⟩;simp only[cG];rw[hf x (by simp[Op.operands]),hf key (by simp[Op.operands]),hf val (by simp[Op.operands])];exact d3 m2 (hm (true,id) (by simp)) _ _
  ·obtain⟨w',μ',s1,s2,s3⟩:=k4 _ _ _ _ _ _ _ _ hR.toaA (av hR x).1 (av hR key).1 (av hR val).1;exact An (by simp[execOp,s1]) (hK undef w' μ' φ s3 (hR.kP.nP s2 k3) .top (by simp))
 case extract t i=>
  split at h
  ·rename_i vs hx;split at h
   ·rename_i v hv;refine⟨_,_,_,_,h,.read (fun f2 m2 hf hm R' k'=>by simp only[cG];rw[hf t (by simp[Op.operands]),hx];simp only[hv]) fun w0 μ φ a w hR=>?_⟩;obtain⟨h1,h2⟩:=av hR t;rw[hx]at h1 h2;generalize hy:a.eval t=y at h1;cases h1 with
    | @aG _ xs t1 t2=>
     have bQ:i<xs.size:=by have:=(OF.1 hv).1;omega
     refine⟨xs[i],by simp[execOp,hy,Instr.extract,bQ],t2 i v _ hv (ald bQ),fun id hid=>h2 id (by simp only[V.has];exact bO (alf hv) hid)⟩
   ·cases h
  ·cases h
 case makeSlice t l c=>
  obtain⟨f',m',b,hd,hk,zS,hs⟩:=JY h;refine⟨_,_,_,_,hk,.make (fun Ai=>⟨(hd Ai).1,(hd Ai).2.1,(hd Ai).2.2.1⟩) (fun Ai f2 m2 hf hs' R' k'=>?_) fun w0 μ φ a w hR=>?_⟩
  ·simp only[cG];rw[hf l (by simp[Op.operands]),hf c (by simp[Op.operands])];exact(hd Ai).2.2.2 f2 m2 hs' _ _
  ·obtain⟨w',y,φ',r1,r2,r3,r4⟩:=hs _ w0 μ φ w (bY E.fn.ntmps w0 a) _ _ hR.toaA hR.kP (av hR l).1 (av hR c).1;refine⟨y,w',μ,φ',by simp[execOp,r1],r2,r3,r4,fun id hid=>?_⟩;have hid:=acA hid;subst hid;exact zS
 case makeMap t hint=>
  split at h
  ·rename_i hh;split at h
   ·rename_i kt et hu;split at h
    ·rename_i hk;obtain⟨ks,Xf⟩:=alK.1 hk;have Qf:∀f2:Fr,(∀x∈(Op.makeMap t hint).operands,bG E f2 x=bG E f x)→LK E f2 hint=true:=fun f2 hf=>by
      cases hint with
      |none=>rfl
      |some x=>simp only[LK]at hh⊢;rw[hf x (by simp[Op.operands])];exact hh
     have mk:∀b:bK,(∀i off,b.rowAt i off=true→False)→(∀(μ:Ro)(φ':Nat→aI)(w:World),(φ' site).g=some w.heap.size→gM E.P μ φ' (w.alloc (.map #[] 0)) site b)→(∀id,b.names id=false)→(∀st,b≠.loop st)→fresh draw site b f m (fun f m ft=>k (.om site) f m ft)=some r→(∀(f2:Fr)(m2:Mem),(∀x∈(Op.makeMap t hint).operands,bG E f2 x=bG E f x)→m2 site=none→∀(R':Type)(k':V→Fr→Mem→bD→Option R'),cG E true site ⟨dst,.makeMap t hint,type,pos,after,guard⟩ f2 m2 k'=k' (.om site) f2 (aw m2 site b) [(true,site)])→∃v f' m' ft,k v f' m' ft=some r∧yD E draw site ⟨dst,.makeMap t hint,type,pos,after,guard⟩ f m v f' m' ft:=by
      intro b PM gL hnm hlp h W8;obtain⟨f',m',hn,ko,zS,Ai,zG⟩:=cv h PM;refine⟨_,_,_,_,ko,.make Ai (fun _ f2 m2 hf hs R' k'=>W8 f2 m2 hf hs R' k') fun w0 μ φ a w hR=>?_⟩;obtain⟨φ',a1,a2,a3⟩:=zG E.P E.aM w0 μ φ w _ _ (G0 (some w.heap.size) 0 0 0) hR.toaA hR.kP (lB.alloc (o:=.map #[] 0) hR.toaA rfl (fun φ' hp _=>gL _ _ _ (by rw[hp])) (fun id hid=>by rw[hnm]at hid;cases hid) (fun st h=>absurd h (hlp st)));have wu:(Instr.makeMap t (hint.map a.eval)).run E.P w=.ok (.map (some w.heap.size)) (w.alloc (.map #[] 0)):=by
       cases hint with
       |none=>rfl
       |some x=>
        have h1:=(av hR x).1;simp only[LK]at hh;split at hh
        ·rename_i q n hx;rw[hx]at h1;generalize hy:a.eval x=y at h1;cases h1 with
         |pv h1=>cases h1;simp[Instr.makeMap,hy,run_underlying hu,Go.asInt,asIntOf,newObj];rfl
        ·cases hh
      refine⟨.map (some w.heap.size),w.alloc (.map #[] 0),μ,φ',by simp only[execOp,Sem.run_bind,wu];rfl,a2,a3,.om (by rw[a1]),fun id hid=>?_⟩;have hid:=acA hid;subst hid;simp[zS]
     split at h
     ·rename_i adU;split at h
      ·rename_i e hue;exact mk (.fu kt e []) (fun i off h=>by cases off<;>simp[bK.rowAt]at h) (fun μ φ' w hg=>⟨w.heap.size,#[],0,ks,hg,fP w _,rfl,Xf,by simp,fun i e h=>by simp at h,by simp⟩) (fun _=>rfl) (fun st h=>by cases h) h fun f2 m2 hf hs R' k'=>by simp only[cG,Qf f2 hf,hu,hk,fresh,hs,IT,adU,hue]
      ·cases h
     ·rename_i adU;exact mk (.map kt []) (fun i off h=>by simp[bK.rowAt]at h) (fun μ φ' w hg=>NJ Xf hg) (fun _=>rfl) (fun st h=>by cases h) h fun f2 m2 hf hs R' k'=>by simp only[cG,Qf f2 hf,hu,hk,fresh,hs,IT];rw[acB adU]
    ·cases h
   ·cases h
  ·cases h
 case makeFunc fn first caps=>
  cases fn<;>simp only at h;case func g=>
   cases PU:Nat.blt g Hr with
   |false=>rw[PU]at h;cases h
   |true=>
   rw[PU]at h;simp only[cond_true]at h;split at h
   ·rename_i XM;have hf0:first= #[]:=by simpa using XM
    subst hf0;refine⟨_,_,_,_,h,.read (fun f2 m2 hf hm R' k'=>?_) fun w0 μ φ a w hR=>⟨.func (.func g) #[] (caps.map a.eval),by simp[execOp,Instr.makeFunc],by rw[←tR PU];exact .fn (lP hR).1 (lP hR).2,fun id hid=>tF hR (by simpa only[V.has]using hid)⟩⟩;simp only[cG,PU,cond_true];rw[T0 (by simp),qz fun x hx=>hf x (by simpa[Op.operands]using hx)]
   ·rename_i XM;split at h
    ·rename_i hcp;have WI:caps= #[]:=by simpa using hcp
     subst WI;refine⟨_,_,_,_,h,.read (fun f2 m2 hf hm R' k'=>?_) fun w0 μ φ a w hR=>⟨.func (.func g) (first.map a.eval) #[],by simp[execOp,Instr.makeFunc],by rw[←XK];exact .fn (lP hR).1 (lP hR).2,fun id hid=>tF hR (by simpa only[V.has]using hid)⟩⟩;simp only[cG,PU,cond_true];rw[acB XM,T0 (by simp),qz fun x hx=>hf x (by simpa[Op.operands]using hx)]
    ·cases h
  all_goals (cases h)
 case slice t x lo hi mx=>
  obtain⟨v,ft,v1,v2,v3,v4,v6⟩:=UA h;have hlo:∀f2:Fr,(∀y∈(Op.slice t x lo hi mx).operands,bG E f2 y=bG E f y)→lo.map (bG E f2)=lo.map (bG E f)∧hi.map (bG E f2)=hi.map (bG E f)∧mx.map (bG E f2)=mx.map (bG E f):=fun f2 hf=>by
   refine⟨?_,?_,?_⟩
   ·cases lo with
    |none=>rfl
    |some y=>simp only[No];rw[hf y (by simp[Op.operands])]
   ·cases hi with
    |none=>rfl
    |some y=>simp only[No];rw[hf y (by simp[Op.operands])]
   ·cases mx with
    |none=>rfl
    |some y=>simp only[No];rw[hf y (by simp[Op.operands])]
  refine⟨_,_,_,_,v2,.read (fun f2 m2 hf hm R' k'=>by simp only[cG];rw[hf x (by simp[Op.operands]),(hlo f2 hf).1,(hlo f2 hf).2.1,(hlo f2 hf).2.2];exact v1 m2 hm _ _) fun w0 μ φ a w hR=>?_⟩;obtain⟨z,z1,z2⟩:=v6 _ _ μ φ w (a.eval x) (lo.map a.eval) (hi.map a.eval) (mx.map a.eval) hR.toaA (av hR x).1 (fun v hv=>by
   obtain⟨y,rfl,rfl⟩:=alg.1 hv;exact⟨_,rfl,(av hR y).1⟩) (fun hv=>by cases lo<;>simp at hv⊢) (fun v hv=>by
   obtain⟨y,rfl,rfl⟩:=alg.1 hv;exact⟨_,rfl,(av hR y).1⟩) (fun hv=>by cases hi<;>simp at hv⊢) (fun v hv=>by
   obtain⟨y,rfl,rfl⟩:=alg.1 hv;exact⟨_,rfl,(av hR y).1⟩) (fun hv=>by cases mx<;>simp at hv⊢)
  exact⟨z,by simp[execOp,z1],z2,fun id hid=>(av hR x).2 id (v4 id hid)⟩
 case buildSlice t len parts=>
  split at h
  ·rename_i e hu;split at h
   ·rename_i WG;split at h
    ·rename_i cs nq;split at h
     ·rename_i hc;obtain⟨hlen,xG,Fe,Ss⟩:=hc;obtain⟨zc,WJ⟩:=alK.1 Ss;obtain⟨iz,zv,z1,z2,z3,_⟩:=eK WJ;obtain⟨p1,p2,p3⟩:=KL nq;obtain⟨f',m',hn,hk,zS,Ai,zG⟩:=cv h;refine⟨_,_,_,_,hk,.make (b:=.box cs) Ai (fun _ f2 m2 hf hs R' k'=>by have UT:(parts.toList.map fun(x:Nat×Operand)=>(x.1,bG E f2 x.2))=parts.toList.map fun(x:Nat×Operand)=>(x.1,bG E f x.2):=vF fun x hx=>hf x.2 (by simp only[Op.operands,anl,alC];exact⟨x,hx,rfl⟩);simp only[cG,hu,WG,IT];rw[UT];simp only[nq];rw[T0 ⟨hlen,xG,Fe,Ss⟩];simp only[fresh,hs]) fun w0 μ φ a w hR=>?_⟩;have JM:parts.toList.length=len:=by rw[←hlen];simp
      have xJ:cs.length=len:=by rw[p1];simp[←JM]
      have NQ:∃c0:Array Value,c0.size=0+parts.toList.length∧∀cells,Instr.fill (fun i=>some (i*1,1)) c0 (parts.map fun(i,x)=>(i,a.eval x)).toList=some cells→(Instr.buildSlice t len (parts.map fun(i,x)=>(i,a.eval x))).run E.P w=.ok (.slice (some ⟨w.heap.size,0,none⟩) len len) (w.alloc (.cells cells e)):=by
       by_cases h0:len*aV E.P e=0
       ·have PQ:len=0:=by rw[xG]at h0;omega
        refine⟨#[],by simp[JM,PQ],fun cells hf=>?_⟩;subst PQ;have Na:parts= #[]:=by apply amU;simpa using alv JM
        subst Na;have hf':cells= #[]:=by simpa[Instr.fill]using hf.symm
        subst hf';simp[Instr.buildSlice,run_underlying hu,sizeOf,typeInfo,z1,newRow,Instr.fill,Array.range_zero']
       ·refine⟨(Array.range (len*aV E.P e)).map (zv.cells[·%zv.cells.size]!),by simp[JM,xG],fun cells hf=>?_⟩;exact run_buildSlice w t e len _ cells iz zv hu z1 z2 (by rw[z3,xG];omega) (by rw[z3];exact h0) (by rw[z3];simp only[xG]at hf⊢;exact hf)
      obtain⟨c0,c1,c2⟩:=NQ;obtain⟨c',d1,d2,d3,d4⟩:=p3 E.P μ φ (parts.map fun(i,x)=>(i,a.eval x)).toList c0 (by simp) (fun j i v hj=>by simp only[IS,alg]at hj;obtain⟨y,hy,he⟩:=hj;simp only[akj]at he;obtain⟨rfl,rfl⟩:=he;exact⟨a.eval y.2,by simp[hy],(av hR y.2).1⟩) (by rw[c1];simp);have pT:c'.size=cs.length:=by rw[d2,c1,xJ];omega
      have fo:∀(i:Nat)u y,cs[i]?=some u→c'[i]?=some y→an E.P μ φ u y∧y.oneCell'=true:=fun i u y hu hy=>by obtain⟨z,e1,e2,e3⟩:=d4 i u hu;rw[amq,hy]at e1;cases e1;exact⟨e2,e3⟩
      obtain⟨φ',a1,a2,a3⟩:=zG E.P E.aM w0 μ φ w (w.alloc (.cells c' e)) _ (G0 (some w.heap.size) len cs.length 1) hR.toaA hR.kP (lB.alloc (o:=.cells c' e) hR.toaA rfl (fun φ' hp Nc=>⟨w.heap.size,c',e,by rw[hp],fP w _,pT,fun i u y hu hy=>(fo i u y hu hy).1.mono (fun _ _ h=>h) fun id hid=>Nc id (bO (alf hu) hid),fun i y hy=>by
       have bQ:=(alm.1 hy).1;have hu:cs[i]?=some (cs[i]'(by omega)):=AI (by omega);exact(fo i _ y hu hy).2,by rw[hp]⟩) (fun id hid=>by
       have h5:=p2 id hid;rw[am0]at h5;obtain⟨u,hu,hh⟩:=cN.1 h5;obtain⟨y,hy,rfl⟩:=alC.1 hu;exact(av hR y.2).2 id hh))
      refine⟨.slice (some ⟨w.heap.size,0,none⟩) len len,w.alloc (.cells c' e),μ,φ',by simp only[execOp,Sem.run_bind,c2 c' d1,Result.andThen_ok,Sem.run_pure],a2,a3,?_,fun id hid=>?_⟩
      ·have:=an.os (P:=E.P) (μ:=μ) (φ:=φ') (id:=site) (g:=w.heap.size) (by rw[a1]);rw[a1,xJ]at this;exact this
      ·have hid:=acA hid;subst hid;simp[zS]
     ·cases h
    ·cases h
   rename_i ajx;have hnf:R8 E e=false:=by simpa using ajx
   split at h
   ·rename_i hfz;split at h
    ·rename_i es m1 L9;split at h
     ·rename_i hc;obtain⟨hlen,ez,Fe,Ss⟩:=hc;obtain⟨zc,WJ⟩:=alK.1 Ss;obtain⟨iz,zv,z1,z2,z3,_⟩:=eK WJ;have hpm:=(uf L9).2 m;obtain⟨p1,p2,p3⟩:=wC hpm;refine⟨_,_,_,_,h,⟨fun hd=>⟨rfl,[],rfl,by simp,fun f2 m2 hf _ R' k'=>?_⟩,fun _ _=>⟨rfl,rfl⟩,fun w0 μ φ a w K Q hR hK=>?_⟩⟩
      ·have UT:(parts.toList.map fun(x:Nat×Operand)=>(x.1,bG E f2 x.2))=parts.toList.map fun(x:Nat×Operand)=>(x.1,bG E f x.2):=vF fun x hx=>hf x.2 (by simp only[Op.operands,anl,alC];exact⟨x,hx,rfl⟩);simp only[cG,hu,hnf,IN,Wi,hfz,IT];rw[UT];simp only[L9];rw[T0 ⟨hlen,ez,Fe,Ss⟩];rfl
      have JM:parts.toList.length=len:=by rw[←hlen,p2];simp
      have NQ:∃c0:Array Value,c0.size=(0+parts.toList.length)*aV E.P e∧∀cells,Instr.fill (fun i=>some (i*aV E.P e,aV E.P e)) c0 (parts.map fun(i,x)=>(i,a.eval x)).toList=some cells→(Instr.buildSlice t len (parts.map fun(i,x)=>(i,a.eval x))).run E.P w=.ok (.slice (some ⟨w.heap.size,0,none⟩) len len) (w.alloc (.cells cells e)):=by
       by_cases h0:len*aV E.P e=0
       ·have PQ:len=0:=by rcases Nat.mul_eq_zero.1 h0 with h|h<;>omega
        refine⟨#[],by simp[JM,PQ],fun cells hf=>?_⟩;subst PQ;have Na:parts= #[]:=by apply amU;simpa using alv JM
        subst Na;have hf':cells= #[]:=by simpa[Instr.fill]using hf.symm
        subst hf';simp[Instr.buildSlice,run_underlying hu,sizeOf,typeInfo,z1,newRow,Instr.fill,Array.range_zero']
       ·refine⟨(Array.range (len*aV E.P e)).map (zv.cells[·%zv.cells.size]!),by simp[JM],fun cells hf=>?_⟩;exact run_buildSlice w t e len _ cells iz zv hu z1 z2 (by rw[z3];omega) (by rw[z3];exact h0) (by rw[z3];exact hf)
      obtain⟨c0,c1,c2⟩:=NQ;obtain⟨μ',c',d1,d2,d3,d4,d5⟩:=p3 E.P E.aM w0 μ φ w (parts.map fun(i,x)=>(i,a.eval x)).toList [] c0 hR.toaA (by simp) (fun j i v hj=>by simp only[IS,alg]at hj;obtain⟨y,hy,he⟩:=hj;simp only[akj]at he;obtain⟨rfl,rfl⟩:=he;exact⟨a.eval y.2,by simp[hy],(av hR y.2).1⟩) rfl (by simpa using c1) (by simpa using Cells.nil);simp only[amC]at d5;have hb:lL w.heap.size w (w.alloc (.cells c' e)):=(lL.refl _ w).alloc (alz _) _;have hA:aN E.P μ' (fun _=>G0 (some w.heap.size) len es.length (aV E.P e)) (w.alloc (.cells c' e)) 0 (aV E.P e) e es:=aN.rA (g:=w.heap.size) rfl rfl ez (by simp only[maxLen,G0];have:len*1≤len*aV E.P e:=amL _ ez;omega) (fP w _) (by simp only[G0];rw[d4];simp[←JM]) (by simp only[G0];omega) (by have h1:=d5.len;rw[alU (by rw[h1];exact alz _)];exact d5);have ub:=kM d2 (w.alloc (.cells c' e));have hV:=hA.LU (g:=w.heap.size) rfl (lo:=0) (len:=len) (by omega) (cap:=len) (by simp only[G0];omega) (alz _) ub (by simp[cB]);rw[aow,anA,alU (by omega)]at hV;exact fU (by simp only[execOp,Sem.run_bind,c2 c' d3,Result.andThen_ok,Sem.run_pure]) (hK _ _ _ φ (d2.called hb) ((hR.kP.nP d1 p1).nP ub (.refl _)) (.pv hV) (fun id hid=>by cases hid))
     ·cases h
    ·cases h
   rename_i ajy;split at h
   ·rename_i es m1 L9;split at h
    ·rename_i hc;obtain⟨hlen,ez,Fe,Ss⟩:=hc;obtain⟨zc,WJ⟩:=alK.1 Ss;obtain⟨iz,zv,z1,z2,z3,_⟩:=eK WJ;have hmm:∃mm,mm=(if draw then m else m1)∧fl m (aV E.P e) (aD E.P e) 0 (parts.toList.map fun(i,x)=>(i,bG E f x))=some (es,mm):=by
      cases draw with
      |true=>exact⟨m,rfl,(uf L9).2 m⟩
      |false=>exact⟨m1,rfl,L9⟩
     obtain⟨mm,hme,hpm⟩:=hmm;rw[←hme]at h;obtain⟨p1,p2,p3⟩:=wC hpm;obtain⟨f',m',hn,hk,zS,Ai,zG⟩:=cv h;refine⟨_,_,_,_,hk,.make (b:=.arr (aV E.P e) e es) (fun hd=>by
      have:=Ai hd;rw[hd]at hme;simp only[IT]at hme;rw[hme]at this;exact this) (fun hd f2 m2 hf hs R' k'=>by
      subst hd;have UT:(parts.toList.map fun(x:Nat×Operand)=>(x.1,bG E f2 x.2))=parts.toList.map fun(x:Nat×Operand)=>(x.1,bG E f x.2):=vF fun x hx=>hf x.2 (by simp only[Op.operands,anl,alC];exact⟨x,hx,rfl⟩);simp only[cG,hu,hnf,IN,Wi,ajy,IT];rw[UT];simp only[IT]at L9;simp only[L9];rw[T0 ⟨hlen,ez,Fe,Ss⟩];simp only[fresh,hs]) fun w0 μ φ a w hR=>?_⟩
     have JM:parts.toList.length=len:=by rw[←hlen,p2];simp
     have NQ:∃c0:Array Value,c0.size=(0+parts.toList.length)*aV E.P e∧∀cells,Instr.fill (fun i=>some (i*aV E.P e,aV E.P e)) c0 (parts.map fun(i,x)=>(i,a.eval x)).toList=some cells→(Instr.buildSlice t len (parts.map fun(i,x)=>(i,a.eval x))).run E.P w=.ok (.slice (some ⟨w.heap.size,0,none⟩) len len) (w.alloc (.cells cells e)):=by
      by_cases h0:len*aV E.P e=0
      ·have PQ:len=0:=by rcases Nat.mul_eq_zero.1 h0 with h|h<;>omega
       refine⟨#[],by simp[JM,PQ],fun cells hf=>?_⟩;subst PQ;have Na:parts= #[]:=by apply amU;simpa using alv JM
       subst Na;have hf':cells= #[]:=by simpa[Instr.fill]using hf.symm
       subst hf';simp[Instr.buildSlice,run_underlying hu,sizeOf,typeInfo,z1,newRow,Instr.fill,Array.range_zero']
      ·refine⟨(Array.range (len*aV E.P e)).map (zv.cells[·%zv.cells.size]!),by simp[JM],fun cells hf=>?_⟩;exact run_buildSlice w t e len _ cells iz zv hu z1 z2 (by rw[z3];omega) (by rw[z3];exact h0) (by rw[z3];exact hf)
     obtain⟨c0,c1,c2⟩:=NQ;obtain⟨μ',c',d1,d2,d3,d4,d5⟩:=p3 E.P E.aM w0 μ φ w (parts.map fun(i,x)=>(i,a.eval x)).toList [] c0 hR.toaA (by simp) (fun j i v hj=>by simp only[IS,alg]at hj;obtain⟨y,hy,he⟩:=hj;simp only[akj]at he;obtain⟨rfl,rfl⟩:=he;exact⟨a.eval y.2,by simp[hy],(av hR y.2).1⟩) rfl (by simpa using c1) (by simpa using Cells.nil);simp only[amC]at d5;obtain⟨φ',a1,a2,a3⟩:=zG E.P E.aM w0 μ' φ w _ _ (G0 (some w.heap.size) len es.length (aV E.P e)) d2 (hR.kP.nP d1 p1) (lB.alloc (o:=.cells c' e) d2 rfl (fun φ' hp _=>aN.rA (g:=w.heap.size) (by rw[hp]) rfl ez (by rw[hp];simp only[maxLen];have:len*1≤len*aV E.P e:=amL _ ez;omega) (fP w _) (by rw[hp,d4];simp[←JM]) (by rw[hp];simp[hlen]) (by have h1:=d5.len;rw[alU (by rw[h1];exact alz _)];exact d5)) (by simp[bK.names]));refine⟨.slice (some ⟨w.heap.size,0,none⟩) len len,w.alloc (.cells c' e),μ',φ',by simp only[execOp,Sem.run_bind,c2 c' d3,Result.andThen_ok,Sem.run_pure],a2,a3,?_,fun id hid=>?_⟩
     ·have:=an.os (P:=E.P) (μ:=μ') (φ:=φ') (id:=site) (g:=w.heap.size) (by rw[a1]);rw[a1,hlen]at this;exact this
     ·have hid:=acA hid;subst hid;simp[zS]
    ·cases h
   ·cases h
  ·cases h
 case call c=>exact absurd rfl (hc c)
 case range t x=>cases hit
 case next x s=>cases hit
 case entry x=>cases hit
 all_goals (cases h)
variable{dst:Option Nat}{after:Array Edge}{guard:Option (Nat×Bool)}
theorem XN(hE:ku E){callee:Callee}{argTypes:Array TypeId}{type:TypeId}{pos:String}(h:cG E draw site ⟨dst,.call ⟨callee,args,argTypes⟩,type,pos,after,guard⟩ f m k=some r):(∃v f' m' ft,k v f' m' ft=some r∧yD E draw site ⟨dst,.call ⟨callee,args,argTypes⟩,type,pos,after,guard⟩ f m v f' m' ft)∨(draw=false∧Ig E ⟨dst,.call ⟨callee,args,argTypes⟩,type,pos,after,guard⟩ f m k r):=by
 unfold cG at h;simp only at h;have ud:∀f2:Fr,(∀x∈(Op.call ⟨callee,args,argTypes⟩).operands,bG E f2 x=bG E f x)→args.toList.map (bG E f2)=args.toList.map (bG E f):=fun f2 hf=>qz fun x hx=>hf x (by simp_all[Op.operands,Call.operands]);have gL:=fun{w0 μ φ a w}(hR:Rel E.P E.aM E.fn.ntmps w0 μ φ f m a w)=>lP hR (args:=args);have known:∀(g:FuncId)(vs:List V),zs E draw site g vs f m k=some r→(∀w0 μ φ a w,Rel E.P E.aM E.fn.ntmps w0 μ φ f m a w→∃xs,(execOp a.eval ⟨dst,.call ⟨callee,args,argTypes⟩,type,pos,after,guard⟩).run E.P w=(callFunc g xs).run E.P w∧vs.length=xs.size∧(∀(i:Nat)v x,vs[i]?=some v→xs[i]?=some x→an E.P μ φ v x)∧∀id,cu id vs=true→(m id).isSome=true)→(∀(f2:Fr)(m2:Mem),(∀x∈(Op.call ⟨callee,args,argTypes⟩).operands,bG E f2 x=bG E f x)→∀(R':Type)(k':V→Fr→Mem→bD→Option R'),cG E true site ⟨dst,.call ⟨callee,args,argTypes⟩,type,pos,after,guard⟩ f2 m2 k'=zs E true site g vs f2 m2 k')→(∃v f' m' ft,k v f' m' ft=some r∧yD E draw site ⟨dst,.call ⟨callee,args,argTypes⟩,type,pos,after,guard⟩ f m v f' m' ft)∨(draw=false∧Ig E ⟨dst,.call ⟨callee,args,argTypes⟩,type,pos,after,guard⟩ f m k r):=by
  intro g vs hx wu Qf;obtain h0|⟨Ai,⟨fn,c,f1,f2,f3⟩,k5⟩:=Xv hE hx;rotate_left
  ·refine .inr ⟨Ai,And.intro (fun c x y h=>by cases h) fun rd w0 μ φ a w K Q _ hR hK=>Ff (fun c h=>by cases h) ?_⟩;obtain⟨xs,x1,x2,x3,x4⟩:=wu w0 μ φ a w hR;unfold Oper.wp;rw[x1,BR f1 f3 f2];rw[Oper.upon_enter];refine(k5 w0 μ φ _ w xs hR.toaA hR.kP x2 x3 x4).mono ?_;grind
  obtain⟨v,f',m',ft,k1,k2,ks,⟨fn,c,f1,f2,f3⟩,k5⟩:=h0;refine .inl ⟨v,f',m',ft,k1,⟨fun hd=>?_,fun _ h=>ks h,fun w0 μ φ a w K Q hR hK=>?_⟩⟩
  ·obtain⟨d1,wr,d2,d3,d4⟩:=k2 hd;exact⟨d1,wr.toList,by rw[d2];cases wr<;>rfl,fun x hx=>(by grind),fun f2 m2 hf hm R' k'=>by rw[Qf f2 m2 hf,d4 f2 m2 hm R' k'];cases wr<;>rfl⟩
  ·obtain⟨xs,x1,x2,x3,x4⟩:=wu w0 μ φ a w hR;unfold Oper.wp;rw[x1,BR f1 f3 f2];rw[Oper.upon_enter];refine(k5 w0 μ φ _ w xs hR.toaA hR.kP x2 x3 x4).mono ?_;grind
 have read:∀{v:V}{ft:bD},k v f m ft=some r→(∀(f2:Fr)(m2:Mem),(∀x∈(Op.call ⟨callee,args,argTypes⟩).operands,bG E f2 x=bG E f x)→(∀x∈ft,m2 x.2=m x.2)→∀(R':Type)(k':V→Fr→Mem→bD→Option R'),cG E true site ⟨dst,.call ⟨callee,args,argTypes⟩,type,pos,after,guard⟩ f2 m2 k'=k' v f2 m2 ft)→(∀w0 μ φ a w,Rel E.P E.aM E.fn.ntmps w0 μ φ f m a w→∃y,(execOp a.eval ⟨dst,.call ⟨callee,args,argTypes⟩,type,pos,after,guard⟩).run E.P w=.ok (.value y) w∧an E.P μ φ v y∧∀id,v.has id=true→(m id).isSome=true)→(∃v f' m' ft,k v f' m' ft=some r∧yD E draw site ⟨dst,.call ⟨callee,args,argTypes⟩,type,pos,after,guard⟩ f m v f' m' ft)∨(draw=false∧Ig E ⟨dst,.call ⟨callee,args,argTypes⟩,type,pos,after,guard⟩ f m k r):=fun hk hn hs=>.inl ⟨_,_,_,_,hk,.read hn hs⟩;have one:∀{l:List Operand}{u:V},l.map (bG E f)=[u]→∃x,l=[x]∧u=bG E f x:=by simp_all
 have two:∀{l:List Operand}{u v:V},l.map (bG E f)=[u,v]→∃x y,l=[x,y]∧u=bG E f x∧v=bG E f y:=by
  intro l u v h;match l with
  |[]=>simp at h
  |[x]=>simp at h
  |[x,y]=>grind
  |_::_::_::_=>simp at h
 have four:∀{l:List Operand}{u1 u2 u3 u4:V},l.map (bG E f)=[u1,u2,u3,u4]→∃x y z t,l=[x,y,z,t]∧u1=bG E f x∧u2=bG E f y∧u3=bG E f z∧u4=bG E f t:=by
  intro l u1 u2 u3 u4 h;match l with
  |[]=>simp at h
  |[x]=>simp at h
  |[x,y]=>simp at h
  |[x,y,z]=>simp at h
  |[x,y,z,t]=>grind
  |_::_::_::_::_::_=>simp at h
 have adV:∀{A:Type}{xs:Array A}{x:A},xs.toList=[x]→xs= #[x]:=fun h=>amU (by omega);have XO:∀{A:Type}{xs:Array A}{x y:A},xs.toList=[x,y]→xs= #[x,y]:=fun h=>amU (by omega);split at h
 ·rename_i u hu;obtain⟨x,hx,rfl⟩:=one hu;split at h
  ·rename_i t ht;obtain⟨v,ft,v1,v2,v3,v4,v5⟩:=abq h;refine read v2 (fun f2 m2 hf hm R' k'=>?_) (fun w0 μ φ a w hR=>?_)
   ·grind [cG]
   ·have e1:=adV hx;have e2:=adV ht;subst e1;subst e2;obtain⟨z,z1,z2⟩:=v5 _ _ μ φ w _ type hR.toaA (av hR x).1 (av hR x).2;exact⟨z,by simp[execOp,resolve,invoke,builtin,z1],z2,fun id hid=>by grind⟩
  ·cases h
 ·rename_i u u' hu;obtain⟨x,y,hx,rfl,rfl⟩:=two hu;split at h
  ·rename_i t t' ht;obtain⟨hd,ht',place,f',m',k1,k2,k3⟩:=Qe h;subst ht';refine .inl ⟨_,_,_,_,k1,⟨fun hd'=>(by grind),fun h _=>by(simp[fv]at h),fun w0 μ φ a w K Q hR hK=>?_⟩⟩;have e1:=XO hx;have e2:=XO ht;subst e1;subst e2;obtain⟨w',z,φ',z1,z2,z3,z4⟩:=k3 _ w0 μ φ w (bY E.fn.ntmps w0 a) _ _ type hR.toaA hR.kP (av hR x).1 (av hR y).1;exact fU (y:=z) (w':=w') (by simp[execOp,resolve,invoke,builtin,z1]) (hK z w' μ φ' z2 z3 z4 fun id hid=>by have hid:=acA hid;subst hid;omega)
  ·cases h
 ·rename_i u u' hu;obtain⟨x,y,hx,rfl,rfl⟩:=two hu;split at h
  ·rename_i t ts ht;obtain⟨n,id,b,ft,c1,c2,c3⟩:=Xr h;refine .inl ⟨_,_,_,_,c2,⟨fun hd=>⟨rfl,[(id,b)],rfl,by simp,fun f2 m2 hf hm R' k'=>?_⟩,fun h _=>by(simp[fv]at h),fun w0 μ φ a w K Q hR hK=>?_⟩⟩
   ·simp only[cG,ud f2 hf,hu,ht];exact c1 m2 hm _ _
   ·have e1:=XO hx;subst e1;have e2:argTypes=(t::ts).toArray:=amU (by omega);subst e2;obtain⟨w',φ',z1,z2,z3,z4⟩:=c3 _ w0 μ φ w (bY E.fn.ntmps w0 a) f _ _ ts type hR.toaA hR.kP (av hR x).1 (av hR y).1;exact fU (y:=.int .i64 n) (w':=w') (by simp only[execOp,resolve,invoke,builtin,Sem.run_bind,Sem.run_pure,Result.andThen_ok];rw[show(#[x,y].map a.eval)= #[a.eval x,a.eval y] by simp,z1];rfl) (hK _ w' μ φ' z2 z3 (.pv (.int z4)) (by simp))
  ·cases h
 ·rename_i u hu;obtain⟨x,hx,rfl⟩:=one hu;split at h
  ·rename_i t ts ht;obtain⟨id,b,c1,c2,c3⟩:=UH h;refine .inl ⟨_,_,_,_,c2,⟨fun hd=>⟨rfl,[(id,b)],rfl,by simp,fun f2 m2 hf hm R' k'=>?_⟩,fun h _=>by(simp[fv]at h),fun w0 μ φ a w K Q hR hK=>?_⟩⟩
   ·simp only[cG,ud f2 hf,hu,ht];exact c1 m2 (hm (true,id) (by simp)) _ _
   ·have e1:=adV hx;subst e1;have e2:argTypes=(t::ts).toArray:=amU (by omega);subst e2;obtain⟨w',z1,z2,z3⟩:=c3 _ w0 μ φ w (bY E.fn.ntmps w0 a) f _ ts type hR.toaA hR.kP (av hR x).1;exact fU (y:=.tuple #[]) (w':=w') (by simp only[execOp,resolve,invoke,builtin,Sem.run_bind,Sem.run_pure,Result.andThen_ok];rw[show(#[x].map a.eval)= #[a.eval x] by simp,z1];rfl) (hK _ w' μ φ z2 z3 .top (by simp))
  ·cases h
 ·rename_i u u' hu;obtain⟨x,y,hx,rfl,rfl⟩:=two hu;obtain⟨q,q1,q2,q3⟩:=Xh h;refine read q2 (fun f2 m2 hf hm R' k'=>?_) (fun w0 μ φ a w hR=>?_)
  ·grind [cG]
  ·have e1:=XO hx;subst e1;obtain⟨z,z1,z2⟩:=q3 E.P μ φ w _ _ (av hR x).1 (av hR y).1;exact⟨z,by simp[execOp,resolve,invoke,builtin,Builtin.min_,z1],.pv z2,by simp⟩
 ·rename_i u u' hu;obtain⟨x,y,hx,rfl,rfl⟩:=two hu;obtain⟨q,q1,q2,q3⟩:=DX h;refine read q2 (fun f2 m2 hf hm R' k'=>?_) (fun w0 μ φ a w hR=>?_)
  ·grind [cG]
  ·have e1:=XO hx;subst e1;obtain⟨z,z1,z2⟩:=q3 E.P μ φ w _ _ (av hR x).1 (av hR y).1;exact⟨z,by simp[execOp,resolve,invoke,builtin,Builtin.max_,z1],.pv z2,by simp⟩
 ·rename_i u1 u2 u3 u4 hu;obtain⟨x,y,z,t,hx,rfl,rfl,rfl,rfl⟩:=four hu;obtain⟨q,q1,q2,q3⟩:=Xi h;refine read q2 (fun f2 m2 hf hm R' k'=>?_) (fun w0 μ φ a w hR=>?_)
  ·grind [cG]
  ·have e1:args= #[x,y,z,t]:=amU (by omega);subst e1;obtain⟨v1,v2,v3,z1,z2,z3,z4⟩:=q3 E.P μ φ w _ _ _ _ (av hR x).1 (av hR y).1 (av hR z).1 (av hR t).1;exact⟨v3,by simp[execOp,resolve,invoke,builtin,Builtin.max_,z1,z2,z3],.pv z4,by simp⟩
 ·rename_i _ g;refine known g _ h (fun w0 μ φ a w hR=>⟨args.map a.eval,?_,(lP hR).1,(lP hR).2,fun id hid=>tF hR hid⟩) (fun f2 m2 hf R' k'=>?_)
  ·simp[execOp,resolve,Deferred.ofValue,invoke,Act.eval]
  ·simp only[cG,ud f2 hf]
 ·rename_i _ tm;split at h
  ·rename_i g caps sU;refine known (zu g) _ h (fun w0 μ φ a w hR=>?_) (fun f2 m2 hf R' k'=>?_)
   ·have h1:=(av hR (.tmp tm)).1;rw[sU]at h1;have hlc:=(av hR (.tmp tm)).2;rw[sU]at hlc;generalize hy:a.eval (.tmp tm)=y at h1;cases h1 with
    | @fn _ _ xs c1 c2=>
     obtain⟨o1,o2⟩:=lP hR (args:=args);obtain⟨b1,b2⟩:=Sz (g:=g) (by simp) o2 c1 c2;refine⟨D5 g xs (args.map a.eval),?_,b1,b2,fun id hid=>?_⟩
     ·cases e:Nat.blt g Hr with
      |true=>rw[tR e]at hy;simp[execOp,resolve,Deferred.ofValue,invoke,hy,zu,D5,e]
      |false=>rw[Nz e]at hy;simp[execOp,resolve,Deferred.ofValue,invoke,hy,zu,D5,e]
     ·obtain⟨v,hv,hh⟩:=cN.1 hid;rcases XJ hv with hv|hv
      ·exact tF hR (cN.2 ⟨v,hv,hh⟩)
      ·exact hlc id (by simp only[V.has];exact cN.2 ⟨v,hv,hh⟩)
   ·have:=hf (.tmp tm) (by simp[Op.operands,Call.operands]);simp only[cG,ud f2 hf,this,sU]
  ·rename_i g caps sU;refine known (zu g) _ h (fun w0 μ φ a w hR=>?_) (fun f2 m2 hf R' k'=>?_)
   ·have h1:=(av hR (.tmp tm)).1;rw[sU]at h1;generalize hy:a.eval (.tmp tm)=y at h1;cases h1 with
    |pv h1=>cases h1 with
     | @fn _ _ xs c1 c2=>
      obtain⟨o1,o2⟩:=lP hR (args:=args);obtain⟨b1,b2⟩:=Sz (g:=g) (caps:=caps.map .pv) (xs:=xs) (by simp) o2 (by simpa using c1) (fun i v x hv hx=>by simp only[IS,alg]at hv;obtain⟨q,hq,rfl⟩:=hv;exact .pv (c2 _ q x hq hx));refine⟨D5 g xs (args.map a.eval),?_,b1,b2,fun id hid=>?_⟩
      ·cases e:Nat.blt g Hr with
       |true=>rw[tR e]at hy;simp[execOp,resolve,Deferred.ofValue,invoke,hy,zu,D5,e]
       |false=>rw[Nz e]at hy;simp[execOp,resolve,Deferred.ofValue,invoke,hy,zu,D5,e]
      ·obtain⟨v,hv,hh⟩:=cN.1 hid;rcases XJ hv with hv|hv
       ·exact tF hR (cN.2 ⟨v,hv,hh⟩)
       ·obtain⟨q,_,rfl⟩:=alC.1 hv;cases hh
   ·have:=hf (.tmp tm) (by simp[Op.operands,Call.operands]);simp only[cG,ud f2 hf,this,sU]
  ·rename_i id sU;split at h
   ·cases h
   ·rename_i Ai;refine .inr ⟨by simpa using Ai,And.intro (fun c x y h=>by cases h) fun rd w0 μ φ a w K Q hY hR hK=>?_⟩;have h1:=(av hR (.tmp tm)).1;rw[sU]at h1;generalize hy:a.eval (.tmp tm)=y at h1;cases h1 with
    | @yl _ g hg=>
     obtain⟨o1,o2⟩:=lP hR (args:=args);obtain⟨fn,tmps,assign,body,y1,y2⟩:=hY _ _ _ _ _ _ _ _ h μ φ (bY E.fn.ntmps w0 a) w (args.map a.eval) hR.toaA hR.kP (fun t ht=>by unfold bY;rw[acB (by omega)]) o1 o2 (fun id hid=>tF hR hid) g hg;refine⟨fun _ _=>trivial,?_⟩;rw[Oper.semAt_eq _ _ _ (fun c h=>by cases h)];have wu:(execOp a.eval ⟨dst,.call ⟨.value (.tmp tm),args,argTypes⟩,type,pos,after,guard⟩).run E.P w=.ok (.round g fn tmps assign body) w:=by simp only[execOp,resolve,Deferred.ofValue,hy];simpa[invoke]using y1
     rw[wu,Oper.uponIn_round];refine⟨fun h=>(by cases h),(FR.abC y2).mono ?_⟩;rintro e w' ⟨v,f',m',y,μ',φ',h0,rfl,_,h1,h2,h3,h4⟩;exact hK v f' m' y w' μ' φ' h0 h1 h2 h3 h4
  ·cases h
 ·cases h
theorem NR{a b:Option R}(h:agree a b=some r):a=some r∧b=some r:=by
 unfold agree at h;split at h
 ·rename_i e;exact⟨h,by rw[←e];exact h⟩
 ·cases h
theorem UZ{op:BinOp}{t:TypeId}{es:List PV}{k:Bool→Option R}(h:P1 E op t es k=some r):∃e,E.P.underlying t=some (.slice e)∧((op=.eql∧∀b,(b=true→es=[])→k b=some r)∨(op=.neq∧∀b,(b=false→es=[])→k b=some r)):=by
 unfold P1 at h;split at h
 ·rename_i e hu;refine⟨e,hu,.inl ⟨rfl,fun b hb=>?_⟩⟩;split at h
  ·obtain⟨h1,h2⟩:=NR h;cases b<;>assumption
  ·rename_i cC;cases b with
   |true=>exact absurd (by simp[hb rfl]) cC
   |false=>exact h
 ·rename_i e hu;refine⟨e,hu,.inr ⟨rfl,fun b hb=>?_⟩⟩;split at h
  ·obtain⟨h1,h2⟩:=NR h;cases b<;>assumption
  ·rename_i cC;cases b with
   |false=>exact absurd (by simp[hb rfl]) cC
   |true=>exact h
 ·cases h
theorem abE{op:BinOp}{t:TypeId}{x y:Operand}{ty type:TypeId}{pos:String}{s:Nat}{es:List PV}(h:cG E draw site ⟨dst,.binOp op t x y ty,type,pos,after,guard⟩ f m k=some r)(hx:bG E f x=.pv (.rs s es))(hy:bG E f y=.fO):draw=false∧Ig E ⟨dst,.binOp op t x y ty,type,pos,after,guard⟩ f m k r:=by
 simp only[cG,hx,hy]at h;split at h
 ·cases h
 ·rename_i hd;refine⟨by simpa using hd,And.intro (fun c x y h=>by cases h) fun rd w0 μ φ a w K Q _ hR hK=>Ff (fun c h=>by cases h) ?_⟩;obtain⟨e,hu,hk⟩:=UZ h;have h1:=(av hR x).1;have h2:=(av hR y).1;rw[hx]at h1;rw[hy]at h2;generalize hvx:a.eval x=vx at h1;generalize hvy:a.eval y=vy at h2;have JW:∃(ad:Option Addr)(n c:Nat),vx=.slice ad n c∧(ad=none→es=[]):=by
   cases h1 with
   |pv h1=>
    cases h1 with
    |lA=>exact⟨none,0,0,rfl,fun _=>rfl⟩
    |M9 _=>exact⟨_,_,_,rfl,fun _=>rfl⟩
    |rs _ _ _ _ _ _ _=>exact⟨_,_,_,rfl,fun h=>by cases h⟩
  obtain⟨ad,n,c,rfl,adP⟩:=JW;cases h2;have go:∀b,(binOp op t (.slice ad n c) (.slice none 0 0)).run E.P w=.ok (.bool b) w→k (.pv (.bool b)) f m [(true,0)]=some r→(⟨dst,.binOp op t x y ty,type,pos,after,guard⟩:Oper).wp E.P a w K Q:=fun b hb hkb=>by refine fU (y:=.bool b) (w':=w) ?_ (hK _ _ _ _ _ _ _ hkb hR.toaA hR.kP (.pv .bool) (by simp));simp only[execOp,eqGuard_at_slice,Sem.run_bind,Sem.run_pure,hvx,hvy,Result.andThen_ok];rw[hb];rfl
  rcases hk with⟨rfl,hk⟩|⟨rfl,hk⟩
  ·refine go ad.isNone (Lib.run_eql_slice_nil w t e ad n c 0 0 hu) (hk _ fun hb=>adP (by simpa using hb))
  ·refine go (!ad.isNone) ?_ (hk _ fun hb=>adP (by simpa using hb));simp only[binOp];simp[Op.equal,Op.maxDepth,Lib.run_equalIn_slice_nil w 9999 t e ad n c 0 0 hu]
theorem XP(h:cG E draw site o f m k=some r)(hi:P5 o.op=true):draw=false∧Ig E o f m k r:=by
 obtain⟨dst,op,type,pos,after,guard⟩:=o;unfold cG at h;cases op<;>first|(cases hi;done)|skip
 case range t x=>
  simp only at h;split at h
  ·cases h
  ·rename_i hd;refine⟨by simpa using hd,And.intro (fun c x y h=>by cases h) fun rd w0 μ φ a w K Q _ hR hK=>Ff (fun c h=>by cases h) ?_⟩;obtain⟨f',m',hk,hl,hs⟩:=UP h;obtain⟨w',y',μ',φ',r1,r2,r3,r4⟩:=hs _ _ _ _ _ _ _ hR.toaA hR.kP (av hR x).1;exact fU (y:=y') (w':=w') (by simp[execOp,r1]) (hK _ _ _ _ _ _ _ hk r2 r3 r4 fun id hid=>by have:=acA hid;subst this;exact hl)
 case next x s=>
  simp only at h;split at h
  ·cases h
  ·rename_i hd;simp only[aly,anY,amf]at hd;obtain⟨hd,rfl⟩:=hd;refine⟨hd,And.intro (fun c x y h=>by cases h) fun rd w0 μ φ a w K Q _ hR hK=>Ff (fun c h=>by cases h) ?_⟩;obtain⟨v,m',y',w',hk,hv,hl,r1,r2,r3⟩:=Xw h _ _ _ _ _ _ type hR.toaA (av hR x).1;exact fU (y:=y') (w':=w') (by simp[execOp,r1]) (hK _ _ _ _ _ _ _ hk r2 (hR.kP.nP (fun _ _ h=>h) hl) r3 fun id hid=>by rw[hv id]at hid;cases hid)
 case entry x=>
  simp only at h;split at h
  ·cases h
  ·rename_i hd;refine⟨by simpa using hd,And.intro (fun c x y h=>by cases h) fun rd w0 μ φ a w K Q _ hR hK=>Ff (fun c h=>by cases h) ?_⟩;obtain⟨v,m',y',hk,hv,hl,r1,r3,r2⟩:=UR h _ _ _ _ _ _ _ hR.toaA (av hR x).1;exact fU (y:=y') (w':=w) (by simp[execOp,r1]) (hK _ _ _ _ _ _ _ hk r3 (hR.kP.nP (fun _ _ h=>h) hl) r2 fun id hid=>by rw[hv id]at hid;cases hid)
theorem abF(hE:ku E)(h:cG E draw site o f m k=some r):(∃v f' m' ft,k v f' m' ft=some r∧yD E draw site o f m v f' m' ft)∨(draw=false∧Ig E o f m k r):=by
 by_cases hc:∃c,o.op=.call c
 ·obtain⟨dst,op,type,pos,after,guard⟩:=o;obtain⟨⟨callee,args,argTypes⟩,hc⟩:=hc;simp only at hc;subst hc;exact XN hE h
 ·by_cases hb:∃op t x y ty s es,o.op=.binOp op t x y ty∧bG E f x=.pv (.rs s es)∧bG E f y=.fO
  ·obtain⟨op,t,x,y,ty,s,es,h1,h2,h3⟩:=hb;obtain⟨dst,op',type,pos,after,guard⟩:=o;simp only at h1;subst h1;exact .inr (abE h h2 h3)
  ·cases hi:P5 o.op with
   |true=>exact .inr (XP h hi)
   |false=>exact .inl (abD hE h (fun c hcc=>hc ⟨c,hcc⟩) (fun op t x y ty s es h1 h2 h3=>hb ⟨op,t,x,y,ty,s,es,h1,h2,h3⟩) hi)
theorem Rel.CP{nt:Nat}{P:Program}{G:Nat→Option (List PV)}{w0:bE}{μ:Ro}{φ:Nat→aI}{f:Fr}{m:Mem}{a:Act}{w:World}(h:Rel P G nt w0 μ φ f m a w){K:Ro}(hK:∀b o,K b=some o→μ b=some o)(hK0:∀b o,w0.dK b=some o→K b=some o):Rel P G nt {w0 with dK:=K} μ φ f m a w:={toaA:=h.toaA.CP hK,size:=h.size,defers:=h.defers,nC:=fun b o hb=>hK0 b o (h.nC b o hb),fr:=h.fr,live:=h.live}
theorem Rel.H2{nt:Nat}{P:Program}{G:Nat→Option (List PV)}{w0:bE}{μ:Ro}{φ:Nat→aI}{f:Fr}{m:Mem}{a:Act}{w:World}{K:Ro}(h:Rel P G nt {w0 with dK:=K} μ φ f m a w)(hK:∀b o,w0.dK b=some o→K b=some o)(ho:∀b o,w0.nC b=some o→w0.dK b=some o):Rel P G nt w0 μ φ f m a w:={toaA:=h.toaA.H2 hK,size:=h.size,defers:=h.defers,nC:=ho,fr:=h.fr,live:=h.live}
abbrev NS(μ μ':Ro):Prop:=∀b o,μ b=some o→μ' b=some o
theorem Qv(h:cG E draw site o f m k=some r):∀c,o.op≠.defer c:=by intro c hc;obtain⟨dst,op,type,pos,after,guard⟩:=o;simp only at hc;subst hc;simp[cG]at h
theorem yD.CR{f':Fr}{ft:bD}(h:yD E draw site o f m v f' m' ft)(hd:∀c,o.op≠.defer c)(rd:Option Nat)(w0:bE)(μ:Ro)(φ:Nat→aI)(a:Act)(w:World)(K:Act→World→Prop)(Q:Exit→Act→World→Prop)(hR:Rel E.P E.aM E.fn.ntmps w0 μ φ f m a w)(hK:∀y w' μ' φ',NS μ μ'→aA E.P E.aM w0 μ' φ' m' w'→cg E.P μ' φ' m' f' (bY E.fn.ntmps w0 a)→an E.P μ' φ' v y→(∀id,v.has id=true→(m' id).isSome=true)→K (a.put o.dst y) w'):o.wpIn (FR rd) 0 E.P a w K Q:=Ff hd (h.sound {w0 with dK:=μ} μ φ a w K Q (hR.CP (fun _ _ h=>h) hR.dK) fun y w' μ' φ' h1 h2 h3 h4=>hK y w' μ' φ' h1.dK (h1.H2 hR.dK) h2 h3 h4)
theorem Ig.CR(h:Ig E o f m k r)(rd:Option Nat)(w0:bE)(μ:Ro)(φ:Nat→aI)(a:Act)(w:World)(K:Act→World→Prop)(Q:Exit→Act→World→Prop)(hY:xC E.P E.aM E.fn.ntmps E.yl w0)(hR:Rel E.P E.aM E.fn.ntmps w0 μ φ f m a w)(hK:∀v f' m' y w' μ' φ',k v f' m' [(true,0)]=some r→NS μ μ'→aA E.P E.aM w0 μ' φ' m' w'→cg E.P μ' φ' m' f' (bY E.fn.ntmps w0 a)→an E.P μ' φ' v y→(∀id,v.has id=true→(m' id).isSome=true)→K (a.put o.dst y) w'):o.wpIn (FR rd) 0 E.P a w K Q:=h.2 rd {w0 with dK:=μ} μ φ a w K Q (hY.CP hR.dK) (hR.CP (fun _ _ h=>h) hR.dK) fun v f' m' y w' μ' φ' h0 h1 h2 h3 h4=>hK v f' m' y w' μ' φ' h0 h1.dK (h1.H2 hR.dK) h2 h3 h4
end
section
variable {R:Type} {E:Env}
variable{site:Nat}{o:Oper}{k:V→Fr→Mem→bD→Option R}
theorem Qw{f:Fr}{m:Mem}{sp:Sp}{r:R}(hs:CF E site o f m=some sp)(h:xsp E site sp f m k=some r):∃v wr,k v (kf (sp.info site).1 f) (xw wr (km (sp.info site).1 m)) (sp.info site).2=some r∧(∀x∈wr,(true,x.1)∈(sp.info site).2)∧(∀x∈(sp.info site).1,(true,x.2)∈(sp.info site).2)∧(∀(f2:Fr)(m2:Mem)(R':Type)(k':V→Fr→Mem→bD→Option R'),xsp E site sp f2 m2 k'=k' v (kf (sp.info site).1 f2) (xw wr (km (sp.info site).1 m2)) (sp.info site).2)∧(∀c,o.op≠.defer c)∧yD E false site o f m v (kf (sp.info site).1 f) (xw wr (km (sp.info site).1 m)) (sp.info site).2:=by
 obtain⟨dst,op,type,pos,after,guard⟩:=o;unfold CF at hs;cases op;case store t a x=>
  simp only at hs;split at hs
  ·rename_i id i off ha;split at hs
   ·rename_i s et es hm;split at hs
    ·rename_i cs hc;split at hs
     ·rename_i ps j id2 ht;split at hs
      ·rename_i lC;simp only[By]at hs;subst hs;simp only[ale,AT,alZ]at lC;obtain⟨⟨hb,h0⟩,cC⟩:=lC;have cC:id2≠id:=fun e=>by simp_all
       unfold xsp at h;obtain⟨e,he,h⟩:=M1.1 h;refine⟨_,_,h,by simp[Sp.info],by simp[Sp.info],fun f2 m2 R' k'=>by simp only[xsp,he,alr];rfl,by simp,⟨fun h=>(nomatch h),fun _ h=>absurd (h (true,id) (by simp[Sp.info])) (by simp),fun w0 μ φ ac w K Q hR hK=>?_⟩⟩;obtain⟨w',φ',u1,u2,u3⟩:=XA hm hc ht hb h0 cC he hR.toaA hR.kP (by have:=(av hR a).1;rw[ha]at this;exact this) (av hR x).1;exact An (by simp[execOp,u1]) (hK undef w' μ φ' u2 u3 .top (by simp))
      ·cases hs
     ·cases hs
    ·cases hs
   ·cases hs
  ·cases hs
 case buildSlice t len parts=>
  simp only at hs;split at hs
  ·rename_i e v hu hp;split at hs
   ·rename_i cs hc;split at hs
    ·rename_i ps j id2 ht agh;split at hs
     ·rename_i p L9;split at hs
      ·rename_i lC;simp only[By]at hs;subst hs;simp only[ale,AT]at lC;obtain⟨⟨⟨hlen,ez⟩,Qx⟩,hz⟩:=lC;have hlen:=acA hlen;subst hlen;refine⟨_,_,h,by simp[Sp.info],by simp[Sp.info],fun f2 m2 R' k'=>rfl,by simp,⟨fun h=>(nomatch h),fun h _=>by(simp[fv]at h),fun w0 μ φ ac w K Q hR hK=>?_⟩⟩;obtain⟨x,hx,hxv⟩:∃x,parts= #[(0,x)]∧bG E f x=v:=by
        obtain⟨l⟩:=parts;match l,hp with
        |[(a,x)],hp=>simp_all
       subst hx;obtain⟨y,w',φ',u1,u2,u3,u4⟩:=US hu hc ht agh L9 ez Qx hz hR.toaA hR.kP (by have:=(av hR x).1;rw[hxv]at this;exact this);exact fU (y:=y) (w':=w') (by simp_all[execOp,Sem.run_bind,Result.andThen_ok,Sem.run_pure]) (hK y w' μ φ' u2 u3 u4 fun j hj=>by have hj:=acA hj;subst hj;simp[xw])
      ·cases hs
     ·cases hs
    ·cases hs
   ·cases hs
  ·cases hs
 case call c=>
  obtain⟨callee,args,argTypes⟩:=c;simp only at hs;split at hs
  ·rename_i id x t t' ha hty;split at hs
   ·rename_i e s et es hu hm;split at hs
    ·rename_i lC;simp only[ale,AT]at lC;obtain⟨⟨⟨⟨⟨h1,h2⟩,h3⟩,h4⟩,h5⟩,h6⟩:=lC;subst h3;have h1:et=e:=by omega
     subst h1;have ud:∃y z,args= #[y,z]∧bG E f y=.os id∧bG E f z=x:=by
      obtain⟨l⟩:=args;rcases l with _|⟨y,_|⟨z,_|⟨u,l⟩⟩⟩
      ·simp at ha
      ·simp at ha
      ·grind
      ·simp at ha
     obtain⟨y,z,rfl,hy,hz⟩:=ud;have abG:argTypes= #[t',t']:=amU (by omega);subst abG;have main:∀(new:List PV)(src:Option Nat)(rd:bD),sp=.app id s et es new src rd→((∃id2,src=some id2∧id2≠id∧x=.os id2∧m id2=some (.nest s et new))∨(src=none∧fD m s x=some (new,rd)))→∃v wr,k v (kf (sp.info site).1 f) (xw wr (km (sp.info site).1 m)) (sp.info site).2=some r∧(∀x∈wr,(true,x.1)∈(sp.info site).2)∧(∀x∈(sp.info site).1,(true,x.2)∈(sp.info site).2)∧(∀(f2:Fr)(m2:Mem)(R':Type)(k':V→Fr→Mem→bD→Option R'),xsp E site sp f2 m2 k'=k' v (kf (sp.info site).1 f2) (xw wr (km (sp.info site).1 m2)) (sp.info site).2)∧(∀c,(⟨dst,.call ⟨.builtin .append,#[y,z],#[t',t']⟩,type,pos,after,guard⟩:Oper).op≠.defer c)∧yD E false site ⟨dst,.call ⟨.builtin .append,#[y,z],#[t',t']⟩,type,pos,after,guard⟩ f m v (kf (sp.info site).1 f) (xw wr (km (sp.info site).1 m)) (sp.info site).2:=by
      intro new src rd BO CO;subst BO;simp only[xsp]at h;split at h
      ·rename_i bF;have hw:(true,id)∈(Sp.info site (.app id s et es new src rd)).2:=by cases src<;>simp[Sp.info]
       have hkm:xw [(id,.nest s et (es++new))] (km (Sp.info site (.app id s et es new src rd)).1 m)=aw (bx (bI id (Sx src m)) id) id (.nest s et (es++new)):=by cases src<;>rfl
       have hkf:kf (Sp.info site (.app id s et es new src rd)).1 f=fa id (kfS src f):=by cases src<;>rfl
       refine⟨_,_,h,fun q hq=>(by simp_all),fun q hq=>?_,fun f2 m2 R' k'=>by simp only[xsp];rw[T0 bF],by simp,⟨fun h=>(nomatch h),fun _ h=>absurd (h (true,id) hw) (by simp),fun w0 μ φ ac w K Q hR hK=>?_⟩⟩
       ·cases src<;>simp only[Sp.info,alq,amw,an3]at hq⊢
        ·subst hq;simp
        grind
       ·obtain⟨w',y',φ',u1,u2,u3,u4⟩:=UX (ty:=type) hu hm h2 h4 h5 h6 bF CO hR.toaA hR.kP (by have:=(av hR y).1;rw[hy]at this;exact this) (by have:=(av hR z).1;rw[hz]at this;exact this);exact fU (y:=y') (w':=w') (by simp[execOp,resolve,invoke,builtin,u1]) (hK y' w' μ φ' (by rw[hkm];omega) (by rw[hkm,hkf];omega) u4 fun j hj=>by have hj:=acA hj;subst hj;simp[xw])
      ·cases h
     split at hs
     ·rename_i vq;split at hs
      ·rename_i s' JL new WL;split at hs
       ·rename_i WH;simp only[ale,AT]at WH;obtain⟨⟨c1,c2⟩,c3⟩:=WH;have c1:=acA c1;subst c1;subst c2;simp only[By]at hs;exact main new (some vq) [] hs.symm (.inl ⟨vq,rfl,fun e=>by simp_all,rfl,WL⟩)
       ·cases hs
      grind
     grind
    ·cases hs
   ·cases hs
  ·cases hs
 case mapUpdate t x key v=>
  simp only at hs;split at hs
  ·rename_i kt et id id2 hu hx hv;split at hs
   ·rename_i zR e es s e' rs kp h1 h2 hk;split at hs
    ·rename_i lC;simp only[By]at hs;subst hs;simp only[ale,AT]at lC;obtain⟨⟨hkt,hee⟩,_⟩:=lC;subst hkt;subst hee;refine⟨_,_,h,by simp[Sp.info],by simp[Sp.info],fun f2 m2 R' k'=>rfl,by simp,⟨fun h=>(nomatch h),fun h _=>by(simp[fv]at h),fun w0 μ φ ac w K Q hR hK=>?_⟩⟩;obtain⟨w',φ',u1,u2,u3⟩:=UW hu h1 h2 hk hR.toaA hR.kP (by have:=(av hR x).1;rw[hx]at this;exact this) (av hR key).1 (by have:=(av hR v).1;rw[hv]at this;exact this);exact An (by simp[execOp,u1]) (hK undef w' μ φ' u2 u3 .top (by simp))
    ·cases hs
   ·cases hs
  ·cases hs
 all_goals (cases hs)
theorem Ma(hE:ku E){draw:Bool}{f:Fr}{m:Mem}{r:R}(h:Nr E draw site o f m k=some r):(∃v f' m' ft,k v f' m' ft=some r∧yD E draw site o f m v f' m' ft)∨(draw=false∧Ig E o f m k r):=by
 unfold Nr at h;split at h
 ·rename_i sp BO;cases draw with
  |true=>cases BO
  |false=>simp only[cond]at BO;grind [Qw]
 ·exact abF hE h
theorem Fh{draw:Bool}{f:Fr}{m:Mem}{r:R}(h:Nr E draw site o f m k=some r):∀c,o.op≠.defer c:=by
 unfold Nr at h;split at h
 ·rename_i sp BO;cases draw with
  |true=>cases BO
  |false=>simp only[cond]at BO;grind [Qw]
 ·exact Qv h
end
end Go.Ab
