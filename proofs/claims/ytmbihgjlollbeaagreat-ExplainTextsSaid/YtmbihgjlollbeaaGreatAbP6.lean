import Derived.Test.YtmbihgjlollbeaaGreatAbP5
import Derived.Lib.SliceRun
import Derived.Laws.IdiomStrings
set_option linter.unusedVariables false
set_option linter.unusedSimpArgs false
namespace Go.Ab
open Go.RowKit (Below)
section
variable {R:Type} {E:Env}
variable{t:TypeId}
theorem Gd{P:Program}{w:World}{ms:Array (String×TypeId)}(hu:P.underlying t=some (.interface ms)){b:Bool}{x:Value}{μ:Ro}(hx:ah P μ (.WG b) x):(Op.equalIn 10000 t x .nilIface).run P w=.ok (!b) w:=by show(Op.equalIn (9999+1) t x .nilIface).run P w=.ok (!b) w;cases hx<;>(unfold Op.equalIn;simp only[Sem.run_bind,run_underlying hu,Result.andThen_ok];rfl)
theorem BU{P:Program}{w:World}{op:BinOp}{ox:Operand}{c:Value}{b:Bool}{x:Value}{μ:Ro}(hx:ah P μ (.WG b) x):(eqGuard op t ox (.const c) x .nilIface).run P w=.ok () w:=by
 cases hx
 ·rw[eqGuard_nil_constR];rfl
 ·rename_i d z;have:eqGuard op t ox (.const c) (.iface d z) .nilIface=pure ():=by cases op<;>rfl
  rw[this];rfl
theorem UD{op:BinOp}{oy:Operand}{a b:V}{k:PV→Option R}{r:R}(h:Jv E op t oy a b k=some r):∃q,(∀(R':Type)(k':PV→Option R'),Jv E op t oy a b k'=k' q)∧k q=some r∧∀(μ:Ro)(φ:Nat→aA)(w:World)(ox:Operand)(x y:Value),(C0 oy=true→y=.nilIface)→ag E.P μ φ a x→ag E.P μ φ b y→∃z,(rS op t ox oy x y).run E.P w=.ok z w∧ah E.P μ q z:=by
 unfold Jv at h⊢;cases hn:C0 oy with
 |false=>rw[hn]at h;obtain⟨q,q1,q2,q3⟩:=Xf h;exact⟨q,fun R' k'=>q1 R' k',q2,fun μ φ w ox x y _ hx hy=>q3 μ φ w ox oy x y hx hy⟩
 |true=>
  rw[hn]at h;simp only[cond]at h⊢;have hoy:oy=.const .nilIface:=by unfold C0 at hn;grind
  subst hoy;unfold TR at h⊢;split at h
  ·rename_i c;split at h
   ·rename_i ms hu;refine⟨_,fun R' k'=>by rfl,h,fun μ φ w ox x y hy hx _=>?_⟩;have:=hy trivial;subst this;cases hx with
    |pv hx=>exact⟨_,bS (BU hx) (gX (by cases hx<;>rfl) (Gd hu hx)),.bool⟩
   ·rename_i ms hu;refine⟨_,fun R' k'=>by rfl,h,fun μ φ w ox x y hy hx _=>?_⟩;have:=hy trivial;subst this;cases hx with
    |pv hx=>refine⟨_,bS (BU hx) (gY (by cases hx<;>rfl) (Gd hu hx)),?_⟩;rw[Bool.not_not];exact .bool
   ·cases h
  ·cases h
theorem Ge{P:Program}{μ:Ro}:∀{es:List PV}{b:Bytes}{xs:List Value},AB es=some b→Cells P μ 1 es xs→b.length=es.length∧xs=b.map fun c=>.int .u8 (c.toNat:Int)
 |[],b,xs,h,hC=>by simp only[AB,cN]at h;subst h;have:=hC.len;simp_all
 |e::es,b,xs,h,hC=>by
  unfold AB at h;split at h
  ·rename_i he;cases he
  ·rename_i n r he;simp only[ajl]at he;obtain⟨rfl,rfl⟩:=he;obtain⟨b',gN,rfl⟩:=Yo.1 h;cases xs with
   |nil=>have:=hC.len;simp at this
   |cons x xs=>
    have hx:x=.int .u8 n∧(Lit.int .u8 n).wf=true:=by
     have:=hC.rep 0 _ 0 _ x rfl rfl rfl;cases this with
     |int hw=>exact⟨rfl,hw⟩
    obtain⟨rfl,hw⟩:=hx;have hC':Cells P μ 1 es xs:=⟨by have:=hC.len;simp at this⊢;omega,fun i e hi=>hC.each (i+1) e (by simpa using hi),fun i e j p y hi hj hy=>hC.rep (i+1) e j p y (by simpa using hi) hj (by grind),fun i y hy=>hC.one (i+1) y (by simpa using hy)⟩;obtain⟨h1,h2⟩:=Ge gN hC';refine⟨by simp[h1],?_⟩;rw[aiL,←h2];rw[lP]at hw;grind [IntKind.min,IntKind.max,IntKind.signed,IntKind.bits,UInt8.ofNat,UInt8.toNat_ofNat']
  ·cases h
theorem Si{s d:TypeId}{a:V}{m:Mem}{k:PV→bq→Option R}{r:R}(h:AD E s d a m k=some r):∃q ft,(∀m2:Mem,(∀x∈ft,m2 x.2=m x.2)→∀(R':Type)(k':PV→bq→Option R'),AD E s d a m2 k'=k' q ft)∧k q ft=some r∧(∀x∈ft,x.1=false)∧∀(G:Nat→Option (List PV))(w0:bw)(μ:Ro)(φ:Nat→aA)(w:World)(x:Value),av E.P G w0 μ φ m w→ag E.P μ φ a x→∃z,(convert s d x).run E.P w=.ok z w∧ah E.P μ q z:=by
 unfold AD at h;split at h
 ·rename_i e hs hd;split at h
  ·rename_i es ft hu CK;obtain⟨b,hb,hk⟩:=cQ.1 h;obtain⟨e1,e2,e3⟩:=mU CK;refine⟨.str b,ft,fun m2 cL R' k'=>by simp_all[AD,aiH],hk,e2,fun G w0 μ φ w x hM hx=>?_⟩;have yo:=e3 _ _ _ _ _ _ _ hM hx;cases yo with
   |none he=>subst he;simp only[AB,cN]at hb;subst hb;exact⟨_,by simp[convert,run_underlying hs,run_underlying hd,run_underlying hu,Conv.bytesToString];rfl,.str (by decide)⟩
   | @some a c xs hC hc hl hm=>obtain⟨h1,h2⟩:=Ge hb hC;subst h2;rw[←h1];refine⟨_,run_convert_bytes_back w s d e a c b hs hu hd fun j hj=>hc j _ (by grind),.str (by omega)⟩
  ·cases h
 ·rename_i BV;obtain⟨q,q1,q2,q3⟩:=Ud h;refine⟨q,[],fun m2 _ R' k'=>?_,q2,by simp,fun G w0 μ φ w x _ hx=>q3 μ φ w x hx⟩;simp_all[AD,absurd]
end
structure tH(E:Env)(draw:Bool)(site:Nat)(o:Oper)(f:Fr)(m:Mem)(v:V)(f':Fr)(m':Mem)(ft:bq):Prop where
 drawn:draw=true→f'=f∧∃wr:List (Nat×bF),m'=sw wr m∧(∀x∈wr,(true,x.1)∈ft)∧∀(f2:Fr)(m2:Mem),(∀x∈o.op.operands,bA E f2 x=bA E f x)→(∀x∈ft,m2 x.2=m x.2)→∀(R':Type)(k':V→Fr→Mem→bq→Option R'),cz E true site o f2 m2 k'=k' v f2 (sw wr m2) ft
 same:eW o=true→(∀x∈ft,x.1=false)→f'=f∧m'=m
 sound:∀(w0:bw)(μ:Ro)(φ:Nat→aA)(a:Act)(w:World)(K:Act→World→Prop)(Q:Exit→Act→World→Prop),Rel E.P E.aF E.fn.ntmps w0 μ φ f m a w→(∀y w' μ' φ',av E.P E.aF w0 μ' φ' m' w'→bU E.P μ' φ' m' f' (an E.fn.ntmps w0 a)→ag E.P μ' φ' v y→(∀id,v.has id=true→(m' id).isSome=true)→K (a.put o.dst y) w')→o.wp E.P a w K Q
def FR(rd:Option Nat):Fence:={Fence.wide with round:=rd}
variable{rd:Option Nat}{P:Program}
theorem FR.Xu{m m':Machine}:StepsIn (Machine.fenced P (FR rd)) P m m'↔Steps P m m':=stepsIn_wide (P:=P)
variable{args:Array Value}{w:World}{R:Ending→World→Prop}
theorem FR.QH{n:Nat}{f:FuncId}(h:Calls P f args w R):CallsIn (FR rd) n P f args w R:=(callsIn_wide (n:=n)).2 h
theorem FR.aai{n:Nat}{row:String}{R:Value→World→Prop}(h:Rows P row args w R):RowsIn (FR rd) n P row args w R:=fun c cs _=>let⟨v,w',r,s⟩:=h c cs;⟨v,w',r,FR.Xu.2 s⟩
theorem FR.Xv{n n':Nat}{l:Nat}{f:FuncId}{tmps:Array Value}{assign body:Code}(h:RoundIn Fence.wide n P l f tmps assign body w R):RoundIn (FR rd) n' P l f tmps assign body w R:=⟨trivial,fun c cs _=>h.2 c cs (room_wide _)⟩
theorem AR{o:Oper}{a:Act}{K:Act→World→Prop}{Q:Exit→Act→World→Prop}(hd:∀c,o.op≠.defer c)(h:o.wp P a w K Q):o.wpIn (FR rd) 0 P a w K Q:=by
 refine⟨fun _ _=>trivial,?_⟩;rw[Oper.semAt_eq _ _ _ hd];unfold Oper.wp at h;cases hr:(execOp a.eval o).run P w with
 |ok nx w'=>
  rw[hr]at h;cases nx with
  |value v=>exact h
  |skip=>exact h
  |defer d=>exact h
  |enter f args=>exact⟨fun h=>(by cases h),FR.QH h⟩
  |row row args=>exact⟨fun h=>(by cases h),FR.aai h⟩
  |_=>exact h.elim
 |halt h' w'=>
  rw[hr]at h;cases h' with
  |panic v=>exact h
  |_=>exact h.elim
def DN{R:Type}(E:Env)(o:Oper)(f:Fr)(m:Mem)(k:V→Fr→Mem→bq→Option R)(r:R):Prop:=
 (∀c x y,o.op≠.pick c x y)∧
 ∀(rd:Option Nat)(w0:bw)(μ:Ro)(φ:Nat→aA)(a:Act)(w:World)(K:Act→World→Prop)(Q:Exit→Act→World→Prop),sG E.P E.aF E.fn.ntmps E.yl w0→Rel E.P E.aF E.fn.ntmps w0 μ φ f m a w→(∀v f' m' y w' μ' φ',k v f' m' [(true,0)]=some r→av E.P E.aF w0 μ' φ' m' w'→bU E.P μ' φ' m' f' (an E.fn.ntmps w0 a)→ag E.P μ' φ' v y→(∀id,v.has id=true→(m' id).isSome=true)→K (a.put o.dst y) w')→o.wpIn (FR rd) 0 E.P a w K Q
section
variable {R:Type} {E:Env}
variable{w0:bw}{μ:Ro}{φ:Nat→aA}{f:Fr}{m:Mem}{a:Act}{w:World}
theorem Rel.jD(h:Rel E.P E.aF E.fn.ntmps w0 μ φ f m a w):bU E.P μ φ m f (an E.fn.ntmps w0 a):=⟨h.fr,h.live⟩
variable{P:Program}{o:Oper}{K:Act→World→Prop}{Q:Exit→Act→World→Prop}
theorem fv{w':World}{y:Value}(hr:(execOp a.eval o).run P w=.ok (.value y) w')(h:K (a.put o.dst y) w'):o.wp P a w K Q:=by unfold Oper.wp;rw[hr];exact h
theorem vE{w':World}(hr:(execOp a.eval o).run P w=.ok .skip w')(h:K (a.put o.dst undef) w'):o.wp P a w K Q:=by unfold Oper.wp;rw[hr];exact h
variable{draw:Bool}{site:Nat}{v:V}
theorem tH.read{ft:bq}(nat:∀(f2:Fr)(m2:Mem),(∀x∈o.op.operands,bA E f2 x=bA E f x)→(∀x∈ft,m2 x.2=m x.2)→∀(R':Type)(k':V→Fr→Mem→bq→Option R'),cz E true site o f2 m2 k'=k' v f2 m2 ft)(hs:∀(w0:bw)(μ:Ro)(φ:Nat→aA)(a:Act)(w:World),Rel E.P E.aF E.fn.ntmps w0 μ φ f m a w→∃y,(execOp a.eval o).run E.P w=.ok (.value y) w∧ag E.P μ φ v y∧∀id,v.has id=true→(m id).isSome=true):tH E draw site o f m v f m ft:=by refine⟨fun _=>⟨rfl,[],rfl,by simp,nat⟩,fun _ _=>⟨rfl,rfl⟩,fun w0 μ φ a w K Q hR hK=>?_⟩;obtain⟨y,hr,hy,hl⟩:=hs w0 μ φ a w hR;exact fv hr (hK y w μ φ hR.toav hR.jD hy hl)
variable{m':Mem}
theorem tH.make{f':Fr}{b:bF}(hd:draw=true→m site=none∧f'=f∧m'=al m site b)(nat:draw=true→∀(f2:Fr)(m2:Mem),(∀x∈o.op.operands,bA E f2 x=bA E f x)→m2 site=none→∀(R':Type)(k':V→Fr→Mem→bq→Option R'),cz E true site o f2 m2 k'=k' v f2 (al m2 site b) [(true,site)])(hs:∀(w0:bw)(μ:Ro)(φ:Nat→aA)(a:Act)(w:World),Rel E.P E.aF E.fn.ntmps w0 μ φ f m a w→∃y w' μ' φ',(execOp a.eval o).run E.P w=.ok (.value y) w'∧av E.P E.aF w0 μ' φ' m' w'∧bU E.P μ' φ' m' f' (an E.fn.ntmps w0 a)∧ag E.P μ' φ' v y∧∀id,v.has id=true→(m' id).isSome=true):tH E draw site o f m v f' m' [(true,site)]:=by
 refine⟨fun h=>?_,fun _ h=>by simp_all,fun w0 μ φ a w K Q hR hK=>?_⟩
 ·obtain⟨h1,h2,h3⟩:=hd h;exact⟨h2,[(site,b)],h3,by simp,fun f2 m2 hf hm R' k'=>nat h f2 m2 hf (by simp_all) R' k'⟩
 grind [fv]
variable{args:Array Operand}
theorem kj(h:Rel E.P E.aF E.fn.ntmps w0 μ φ f m a w):(args.toList.map (bA E f)).length=(args.map a.eval).size∧∀(i:Nat)v x,(args.toList.map (bA E f))[i]?=some v→(args.map a.eval)[i]?=some x→ag E.P μ φ v x:=by refine⟨by simp,fun i v x hv hx=>?_⟩;simp only[GP,Yo]at hv;obtain⟨o,ho,rfl⟩:=hv;grind [Option.some.injEq,ai]
theorem py(h:Rel E.P E.aF E.fn.ntmps w0 μ φ f m a w){args:List Operand}{id:Nat}(hid:cd id (args.map (bA E f))=true):(m id).isSome=true:=by obtain⟨v,hv,hh⟩:=cC.1 hid;obtain⟨o,_,rfl⟩:=aiR.1 hv;exact(ai h o).2 id hh
theorem nC{f2:Fr}{l:List Operand}(h:∀x∈l,bA E f2 x=bA E f x):l.map (bA E f2)=l.map (bA E f):=ai7 h
theorem rn{f2:Fr}{l:List (Nat×Operand)}(h:∀x∈l,bA E f2 x.2=bA E f x.2):(l.map fun(x:Nat×Operand)=>(x.1,bA E f2 x.2))=l.map fun(x:Nat×Operand)=>(x.1,bA E f x.2):=ai7 fun x hx=>by rw[h x hx]
variable{g:FuncId}
theorem wU{fn:Func}{c:Code}(hf:P.funcs[g]?=some fn)(Y9:(fn.name== "runtime.NumGoroutine")=false)(hb:fn.body=some c){args:Array Value}:(callFunc g args).run P w=.ok (.enter g args) w:=by simp_all[callFunc]
theorem qe{b:Bool}{x:Value}(h:ag P μ φ (.pv (.bool b)) x):x=.bool b:=by cases h with|pv h=>cases h;rfl
theorem UE{p:PV}(h:CZ cU v=some (p,m'))(m:Mem):CZ m v=some (p,m):=by unfold CZ at h⊢;grind [Option.some.injEq,Prod.mk.injEq,cU]
theorem AS:∀{cs:List V}{ps:List PV}{m':Mem},lf cU cs=some (ps,m')→∀m:Mem,lf m cs=some (ps,m)
 |[],ps,m',h,m=>by simp only[lf,cN,IT]at h;rw[←h.1];rfl
 |c::r,ps,m',h,m=>by
  simp only[lf]at h;split at h
  ·rename_i p m1 h1;have e1:=pU h1;subst e1;split at h
   ·rename_i Y2 m2 h2;simp only[cN,IT]at h;simp only[lf,UE h1 m,AS h2 m,h.1]
   ·cases h
  ·cases h
theorem BW:∀{cs:List V}{ps:List PV}{m':Mem},lf cU cs=some (ps,m')→m'=cU
 |[],ps,m',h=>by simp_all[lf,cN,IT]
 |c::r,ps,m',h=>by
  simp only[lf]at h;split at h
  ·rename_i p m1 h1;have e1:=pU h1;subst e1;split at h
   ·rename_i Y2 m2 h2;simp only[cN,IT]at h;rw[←h.2];exact BW h2
   ·cases h
  ·cases h
theorem JX{n:Nat}{agg:Bool}{p:PV}(h:jx cU n agg v=some (p,m')):m'=cU∧∀m:Mem,jx m n agg v=some (p,m):=by
 unfold jx at h;split at h
 ·rename_i cs hc;split at h
  ·rename_i ps m1 h1;have e1:=BW h1;subst e1;cases agg with
   |true=>simp only[IS,cN,IT]at h;refine⟨h.2.symm,fun m=>?_⟩;unfold jx;simp only[hc,AS h1 m,IS,h.1]
   |false=>
    simp only[cT,T1]at h;split at h
    ·simp only[cN,IT]at h;refine⟨h.2.symm,fun m=>?_⟩;unfold jx;simp only[hc,AS h1 m,cT,T1,h.1]
    ·cases h
  ·cases h
 ·cases h
theorem qf{n:Nat}{agg:Bool}:∀{parts:List (Nat×V)}{i:Nat}{ps:List PV}{m':Mem},eU cU n agg i parts=some (ps,m')→m'=cU∧∀m:Mem,eU m n agg i parts=some (ps,m)
 |[],i,ps,m',h=>by simp_all[eU,cN,IT]
 |(j,v)::r,i,ps,m',h=>by
  simp only[eU]at h;split at h
  ·rename_i Y5;split at h
   ·rename_i p m1 h1;obtain⟨e1,e2⟩:=JX h1;subst e1;split at h
    ·rename_i Y2 m2 h2;obtain⟨e3,e4⟩:=qf h2;simp_all[cN,IT,eU,AI]
    ·cases h
   ·cases h
  ·cases h
def zq(g:FuncId)(xs ys:Array Value):Array Value:=bif Nat.blt g CY then ys++xs else xs++ys
theorem QI{caps args:List V}{xs ys:Array Value}(e1:args.length=ys.size)(h1:∀(i:Nat)v x,args[i]?=some v→ys[i]?=some x→ag P μ φ v x)(e2:caps.length=xs.size)(h2:∀(i:Nat)v x,caps[i]?=some v→xs[i]?=some x→ag P μ φ v x):(xZ g caps args).length=(zq g xs ys).size∧∀(i:Nat)v x,(xZ g caps args)[i]?=some v→(zq g xs ys)[i]?=some x→ag P μ φ v x:=by unfold xZ zq;grind
theorem UF{caps args:List V}(h:v∈xZ g caps args):v∈args∨v∈caps:=by unfold xZ at h;grind
theorem UG(g:FuncId)(xs:Array Value):zh (g+CY) xs=.func (.func g) xs #[]:=by simp[zh,By,Nat.le_add_left,aj7]
theorem tI{site:Nat}:∀{ts:List TypeId}{j:Nat}{F:Fr}{m:Mem}{k:Fr→Mem→Option R}{r:R},wG E site ts j F m k=some r→∃F' m',k F' m'=some r∧∀(G:Nat→Option (List PV))(w0:bw)(μ:Ro)(φ:Nat→aA)(w:World)(ρ:Nat→Value),av E.P G w0 μ φ m w→bU E.P μ φ m F ρ→∃φ',av E.P G w0 μ φ' m' w∧bU E.P μ φ' m' F' ρ
 |[],j,F,m,k,r,h=>⟨F,m,h,fun G w0 μ φ w ρ hM hF=>⟨φ,hM,hF⟩⟩
 |t::ts,j,F,m,k,r,h=>by
  simp only[wG]at h;split at h
  ·rename_i hj;split at h
   ·rename_i e hu;split at h
    ·rename_i eB;obtain⟨f1,m1,hn,hk,vd,xz,uS⟩:=dY h;obtain⟨F',m',c1,c2⟩:=tI hk;refine⟨F',m',c1,fun G w0 μ φ w ρ hM hF=>?_⟩;obtain⟨φ',a1,a2,a3⟩:=uS E.P G w0 μ φ w w ρ (Cn none 0 0 (aQ E.P e)) hM hF ⟨jS.refl _ _,hM.ro,fun _ _ _ _ _=>rfl,by simp,fun φ' hp _=>by refine⟨by rw[hp];rfl,by rw[hp],rfl,eB,by simp,by rw[hp];simp[maxLen],?_⟩;simp_all,by simp[bF.names],fun st h=>by cases h⟩;have hv:ρ j=.slice none 0 0:=by have:=hF.fr j;rw[hj]at this;generalize ρ j=y at this;cases this;rfl
     refine c2 G w0 μ φ' w ρ a2 ⟨fun s=>?_,fun s id hid=>?_⟩
     ·by_cases e:s=j
      ·subst e;rw[show fT f1 s (.os (sD site s)) s=.os (sD site s) by simp_all,hv];exact .qY (by rw[a1])
      ·rw[pR e];exact a3.fr s
     ·by_cases e:s=j
      ·subst e;rw[show fT f1 s (.os (sD site s)) s=.os (sD site s) by simp_all]at hid;have hid:=BY hid;subst hid;simp[vd]
      ·rw[pR e]at hid;exact a3.live s id hid
    ·cases h
   ·cases h
  ·exact tI h
variable{k:V→Fr→Mem→bq→Option R}{r:R}
theorem Xw(hE:je E)(h:cz E draw site o f m k=some r)(hc:∀c,o.op≠.call c)(hb:∀op t x y ty s es,o.op=.binOp op t x y ty→bA E f x=.pv (.rs s es)→bA E f y≠.gy)(hit:ME o.op=false):∃v f' m' ft,k v f' m' ft=some r∧tH E draw site o f m v f' m' ft:=by
 obtain⟨dst,op,type,pos,after,guard⟩:=o;unfold cz at h;cases op<;>simp only at h;case move x=>refine⟨_,_,_,_,h,.read (fun f2 m2 hf _ R' k'=>by simp only[cz];rw[hf x (by simp[Op.operands])]) fun w0 μ φ a w hR=>⟨_,rfl,(ai hR x).1,(ai hR x).2⟩⟩
 case pick c x y=>
  split at h
  ·rename_i t hc;cases t with
   |true=>simp only[IS]at h;refine⟨_,_,_,_,h,.read (fun f2 m2 hf _ R' k'=>by simp only[cz];rw[hf c (by simp[Op.operands]),hf x (by simp[Op.operands]),hc];simp) fun w0 μ φ a w hR=>?_⟩;have h1:=(ai hR c).1;rw[hc]at h1;exact⟨a.eval x,by simp[execOp,Go.asBool,qe h1],(ai hR x).1,(ai hR x).2⟩
   |false=>simp only[cT,T1]at h;refine⟨_,_,_,_,h,.read (fun f2 m2 hf _ R' k'=>by simp only[cz];rw[hf c (by simp[Op.operands]),hf y (by simp[Op.operands]),hc];simp) fun w0 μ φ a w hR=>?_⟩;have h1:=(ai hR c).1;rw[hc]at h1;exact⟨a.eval y,by simp[execOp,Go.asBool,qe h1],(ai hR y).1,(ai hR y).2⟩
  ·cases h
 case assign x=>
  have mk:∀{v},bA E f x=v→(v=.gy→∀e,E.P.underlying type≠some (.slice e))→k v f m []=some r→∃v f' m' ft,k v f' m' ft=some r∧tH E draw site {dst,op:=.assign x,type,pos,after,guard} f m v f' m' ft:=by
   intro v hv dh hk;refine⟨v,f,m,[],hk,.read (fun f2 m2 hf _ R' k'=>?_) fun w0 μ φ a w hR=>⟨_,rfl,hv▸(ai hR x).1,hv▸(ai hR x).2⟩⟩;simp only[cz];rw[hf x (by simp[Op.operands]),hv];cases v<;>try rfl
   simp only;split
   ·rename_i e hu;exact absurd hu (dh rfl e)
   ·rfl
  split at h
  ·rename_i hx;split at h
   ·rename_i e hu;split at h
    ·rename_i eB;obtain⟨f',m',hn,hk,vd,xz,uS⟩:=dY h;refine⟨_,_,_,_,hk,.make xz (fun _ f2 m2 hf hs R' k'=>?_) fun w0 μ φ a w hR=>?_⟩
     ·simp only[cz];rw[hf x (by simp[Op.operands]),hx];simp only[hu,eB,IS,fresh,hs]
     ·have h1:=(ai hR x).1;rw[hx]at h1;obtain⟨φ',a1,a2,a3⟩:=uS E.P E.aF w0 μ φ w w _ (Cn none 0 0 (aQ E.P e)) hR.toav hR.jD ⟨jS.refl _ _,hR.ro,fun _ _ _ _ _=>rfl,by simp,fun φ' hp _=>by refine⟨by rw[hp];rfl,by rw[hp],rfl,eB,by simp,by rw[hp];simp[maxLen],?_⟩;rw[hp];exact⟨rfl,rfl⟩,by simp[bF.names],fun st h=>by cases h⟩;refine⟨.slice none 0 0,w,μ,φ',?_,a2,a3,.qY (by rw[a1]),fun id hid=>?_⟩
      ·simp only[execOp,Sem.run_pure];generalize a.eval x=y at h1;cases h1;rfl
      ·have hid:=BY hid;subst hid;simp[vd]
    ·cases h
   ·rename_i hu;exact mk hx (fun _ e he=>hu e he) h
  ·rename_i hx;exact mk rfl (fun he=>absurd he hx) h
 case alloc t=>
  split at h
  ·rename_i cs hz;obtain⟨i,zv,z1,z2,z3,z4,z5,z6,z7,z8⟩:=ei hz;cases F0:E.Ay site with
   |true=>
    rw[F0]at h;simp only[cond_true]at h;split at h
    ·rename_i n e ps hu oa;split at h
     ·rename_i hcc;obtain⟨ha,hl,eB,agy⟩:=hcc;obtain⟨f',m',hn,hk,vd,xz,uS⟩:=dY h;obtain⟨q1,q2⟩:=gr oa;have uU:(gS (aQ E.P e) n (.agg ps)).length=n:=by simp[gS]
      refine⟨_,_,_,_,hk,.make xz (fun _ f2 m2 hf hs R' k'=>by simp only[cz,hz,F0,hu,oa,cond_true];rw[AI ⟨ha,hl,eB,agy⟩];simp only[fresh,hs]) fun w0 μ φ a w hR=>?_⟩;have mJ:ah E.P μ (.agg ps) (.agg zv.cells):=.agg (by omega) (fun i p x hp hx=>by obtain⟨v,hv,hpo⟩:=q2 i p hp;have:=z7 μ φ i v x hv hx;cases v<;>simp[pvO]at hpo;subst hpo;cases this with|pv h=>exact h) z8;have hC:Cells E.P μ (aQ E.P e) (gS (aQ E.P e) n (.agg ps)) (zv.cells.toList.take ((gS (aQ E.P e) n (.agg ps)).length*aQ E.P e)):=by
       refine⟨by rw[uU];simp;omega,fun i e' Se=>?_,fun i e' j p y hi hj hy=>?_,fun i y hy=>z8 i y (by simpa using(eA hy).2)⟩
       ·obtain⟨_,rfl⟩:=yn Se;exact rV
       ·obtain⟨x',x1,x2,_⟩:=F3 (k:=i*aQ E.P e+j) mJ (by omega) hi hj rfl;have:=(eA hy).2;rw[aiM,x1]at this;cases this;exact x2
      obtain⟨φ',a1,a2,a3⟩:=uS E.P E.aF w0 μ φ w _ _ (Cn (some w.heap.size) n (gS (aQ E.P e) n (.agg ps)).length (aQ E.P e)) hR.toav hR.jD (jM.alloc (o:=.cells zv.cells t) hR.toav rfl (fun φ' hp _=>aH.nJ (g:=w.heap.size) (by rw[hp]) rfl eB (by rw[hp];simp only[maxLen,Cn];omega) (fj w _) (by rw[hp];simp only[Cn];omega) (by rw[hp,uU];exact aiJ _) hC) (by simp[bF.names]));refine⟨.pointer (some ⟨w.heap.size,0,none⟩),w.alloc (.cells zv.cells t),μ,φ',by simp[execOp,AN z1 z2],a2,a3,?_,fun id hid=>?_⟩
      ·have:=ag.oe (P:=E.P) (μ:=μ) (φ:=φ') (id:=site) (i:=0) (off:=0) (g:=w.heap.size) (by rw[a1]);simpa using this
      ·have hid:=BY hid;subst hid;simp[vd]
     ·cases h
    ·cases h
   |false=>
   rw[F0]at h;simp only[cond_false]at h;split at h
   ·rename_i M8;have hdf:draw=false:=by simp only[No,aiT]at M8;exact M8.1
    obtain⟨F,m1,g1,g2⟩:=tI h;obtain⟨f',m',hn,hk,vd,xz,uS⟩:=dY g1;refine⟨_,_,_,_,hk,⟨fun hd=>(by rw[hdf]at hd;cases hd),fun _ h=>(by have:=h (true,site) (by simp);cases this),fun w0 μ φ a w K Q hR hK=>?_⟩⟩;have x1:cs.length=zv.cells.size:=by omega
    have x2:=z7 μ φ;have x3:=z8;have hF0:bU E.P μ φ m (uu cs.length cs f) (fun t=>if t<cs.length then zv.cells.getD t undef else an E.fn.ntmps w0 a (t-cs.length)):=by
     refine⟨fun t=>?_,fun t id hid=>?_⟩
     ·unfold uu;by_cases ht:t<cs.length
      ·rw[show Nat.blt t cs.length=true by rw[ajv];exact ht,AI ht];show ag E.P μ φ (cs.getD t .top) _;have hx:t<zv.cells.size:=by omega
       rw[show cs.getD t .top=cs[t] by simp[List.getD,ht],show zv.cells.getD t undef=zv.cells[t] by simp[Array.getD,hx]];exact x2 t _ _ (cO ht) (IN hx)
      ·rw[show Nat.blt t cs.length=false by rw[←ajz,ajv];exact ht,By ht];exact hR.jD.fr _
     ·unfold uu at hid;cases e:Nat.blt t cs.length with
      |true=>
       rw[e]at hid;have ht:t<cs.length:=by rwa[ajv]at e
       have hid:(cs.getD t .top).has id=true:=hid;rw[show cs.getD t .top=cs[t] by simp[List.getD,ht]]at hid;exact absurd (bH (aiZ ht) hid) (by rw[z6];simp)
      |false=>rw[e]at hid;exact hR.jD.live _ id hid
    obtain⟨φ1,tE,Cp⟩:=g2 E.aF w0 μ φ w _ hR.toav hF0;have Xm:bU E.P μ φ1 m1 (vj cs.length F) (an E.fn.ntmps w0 a):=by refine⟨fun t=>?_,fun t id hid=>Cp.live _ id hid⟩;have:=Cp.fr (t+cs.length);rw[By (by omega),aj7]at this;exact this
    have Tz:∀(i:Nat)u y,((List.range cs.length).map F)[i]?=some u→zv.cells[i]?=some y→ag E.P μ φ1 u y:=fun i u y hu hy=>by
     have hi:i<cs.length:=by have:=(AT.1 hu).1;simpa using this
     have pQ:F i=u:=by simpa[hi]using hu
     have:=Cp.fr i;rw[AI hi,pQ,show zv.cells.getD i undef=y by simp[aiA,hy]]at this;exact this
    obtain⟨φ',a1,a2,a3⟩:=uS E.P E.aF w0 μ φ1 w _ _ _ tE Xm (jM.box (T:=t) tE (c:=zv.cells) (by simp;omega) Tz x3 (fun id hid=>by obtain⟨u,hu,hh⟩:=cC.1 hid;obtain⟨i,_,rfl⟩:=aiR.1 hu;exact Cp.live i id hh));refine fv (y:=.pointer (some ⟨w.heap.size,0,none⟩)) (w':=w.alloc (.cells zv.cells t)) (by simp[execOp,AN z1 z2]) (hK _ _ μ φ' a2 a3 (.op (by rw[a1])) fun id hid=>?_);have hid:=BY hid;subst hid;simp[vd]
   rename_i M8;have h:fresh draw site (.box cs) f m (fun f m ft=>k (.op site 0) f m ft)=some r:=h;obtain⟨f',m',hn,hk,vd,xz,uS⟩:=dY h;refine⟨_,_,_,_,hk,.make xz (fun _ f2 m2 hf hs R' k'=>by simp only[cz,hz,F0,cond_false,fresh,hs,aiK,akf,cT,T1]) fun w0 μ φ a w hR=>?_⟩;obtain⟨φ',a1,a2,a3⟩:=uS E.P E.aF w0 μ φ w _ _ _ hR.toav hR.jD (jM.box (T:=t) hR.toav (c:=zv.cells) (by omega) (z7 μ φ) z8 (fun id hid=>by rw[z6]at hid;cases hid));refine⟨.pointer (some ⟨w.heap.size,0,none⟩),w.alloc (.cells zv.cells t),μ,φ',by simp[execOp,AN z1 z2],a2,a3,.op (by rw[a1]),fun id hid=>?_⟩;have hid:=BY hid;subst hid;simp[vd]
  ·cases h
 case box t x=>
  split at h
  ·rename_i cs hc;obtain⟨n1,n2,n3⟩:=toCells_ok hc;split at h
   ·rename_i M8;have hdf:draw=false:=by simp only[No,aiT]at M8;exact M8.1
    split at h
    ·rename_i ts hts;split at h
     ·rename_i hlen;obtain⟨F,m1,g1,g2⟩:=tI h;obtain⟨f',m',hn,hk,vd,xz,uS⟩:=dY g1;refine⟨_,_,_,_,hk,⟨fun hd=>(by rw[hdf]at hd;cases hd),fun _ h=>(by have:=h (true,site) (by simp);cases this),fun w0 μ φ a w K Q hR hK=>?_⟩⟩;obtain⟨h1,h2⟩:=ai hR x;obtain⟨x1,x2,x3⟩:=n3 _ _ _ _ h1;have hF0:bU E.P μ φ m (uu cs.length cs f) (fun t=>if t<cs.length then(a.eval x).cells.getD t undef else an E.fn.ntmps w0 a (t-cs.length)):=by
       refine⟨fun t=>?_,fun t id hid=>?_⟩
       ·unfold uu;by_cases ht:t<cs.length
        ·rw[show Nat.blt t cs.length=true by rw[ajv];exact ht,AI ht];show ag E.P μ φ (cs.getD t .top) _;have hx:t<(a.eval x).cells.size:=by omega
         rw[show cs.getD t .top=cs[t] by simp[List.getD,ht],show(a.eval x).cells.getD t undef=(a.eval x).cells[t] by simp[Array.getD,hx]];exact x2 t _ _ (cO ht) (IN hx)
        ·rw[show Nat.blt t cs.length=false by rw[←ajz,ajv];exact ht,By ht];exact hR.jD.fr _
       ·unfold uu at hid;cases e:Nat.blt t cs.length with
        |true=>
         rw[e]at hid;have ht:t<cs.length:=by rwa[ajv]at e
         have hid:(cs.getD t .top).has id=true:=hid;rw[show cs.getD t .top=cs[t] by simp[List.getD,ht]]at hid;exact h2 id (n2 id (bH (aiZ ht) hid))
        |false=>rw[e]at hid;exact hR.jD.live _ id hid
      obtain⟨φ1,tE,Cp⟩:=g2 E.aF w0 μ φ w _ hR.toav hF0;have Xm:bU E.P μ φ1 m1 (vj cs.length F) (an E.fn.ntmps w0 a):=by refine⟨fun t=>?_,fun t id hid=>Cp.live _ id hid⟩;have:=Cp.fr (t+cs.length);rw[By (by omega),aj7]at this;exact this
      have Tz:∀(i:Nat)u y,((List.range cs.length).map F)[i]?=some u→(a.eval x).cells[i]?=some y→ag E.P μ φ1 u y:=fun i u y hu hy=>by
       have hi:i<cs.length:=by have:=(AT.1 hu).1;simpa using this
       have pQ:F i=u:=by simpa[hi]using hu
       have:=Cp.fr i;rw[AI hi,pQ,show(a.eval x).cells.getD i undef=y by simp[aiA,hy]]at this;exact this
      obtain⟨φ',a1,a2,a3⟩:=uS E.P E.aF w0 μ φ1 w _ _ _ tE Xm (jM.box (T:=t) tE (c:=(a.eval x).cells) (by simp;omega) Tz x3 (fun id hid=>by obtain⟨u,hu,hh⟩:=cC.1 hid;obtain⟨i,_,rfl⟩:=aiR.1 hu;exact Cp.live i id hh));refine fv (y:=.pointer (some ⟨w.heap.size,0,none⟩)) (w':=w.alloc (.cells (a.eval x).cells t)) (by simp[execOp,Qz]) (hK _ _ μ φ' a2 a3 (.op (by rw[a1])) fun id hid=>?_);have hid:=BY hid;subst hid;simp[vd]
     ·cases h
    ·cases h
   rename_i M8;have h:fresh draw site (.box cs) f m (fun f m ft=>k (.op site 0) f m ft)=some r:=h;have M8:draw=true→(!true&&cs.any TV)=false:=fun _=>rfl;obtain⟨f',m',hn,hk,vd,xz,uS⟩:=dY h;refine⟨_,_,_,_,hk,.make xz (fun _ f2 m2 hf hs R' k'=>by simp only[cz];rw[hf x (by simp[Op.operands])];simp only[hc,fresh,hs,aiK,akf,cT,T1]) fun w0 μ φ a w hR=>?_⟩;obtain⟨h1,h2⟩:=ai hR x;obtain⟨x1,x2,x3⟩:=n3 _ _ _ _ h1;obtain⟨φ',a1,a2,a3⟩:=uS E.P E.aF w0 μ φ w _ _ _ hR.toav hR.jD (jM.box (T:=t) hR.toav (c:=(a.eval x).cells) (by omega) x2 x3 (fun id hid=>h2 id (n2 id hid)));refine⟨.pointer (some ⟨w.heap.size,0,none⟩),w.alloc (.cells (a.eval x).cells t),μ,φ',by simp[execOp,Qz],a2,a3,.op (by rw[a1]),fun id hid=>?_⟩;have hid:=BY hid;subst hid;simp[vd]
  ·cases h
 case build t parts=>obtain⟨v,v1,v2,v3,v4⟩:=R0 h;have Sd:∀f2:Fr,(∀x∈(Op.build t parts).operands,bA E f2 x=bA E f x)→(parts.toList.map fun(x:Nat×Operand)=>(x.1,bA E f2 x.2))=parts.toList.map fun(x:Nat×Operand)=>(x.1,bA E f x.2):=fun f2 hf=>rn fun x hx=>hf x.2 (by simp only[Op.operands,akh,aiR];exact⟨x,hx,rfl⟩);refine⟨_,_,_,_,v2,.read (fun f2 m2 hf _ R' k'=>by simp only[cz];rw[Sd f2 hf];exact v1 _ _) fun w0 μ φ a w hR=>?_⟩;obtain⟨z,z1,z2⟩:=v4 μ φ w (parts.map fun(i,x)=>(i,a.eval x)) (by simp) (fun j i v hj=>by simp only[GP,Yo]at hj;obtain⟨y,hy,he⟩:=hj;simp only[IT]at he;obtain⟨rfl,rfl⟩:=he;refine⟨a.eval y.2,?_,(ai hR y.2).1⟩;rw[akT,←aiM,hy];rfl);refine⟨z,by simp only[execOp,Sem.run_bind,z1,Result.andThen_ok,Sem.run_pure],z2,fun id hid=>?_⟩;have h5:=v3 id hid;rw[akt]at h5;obtain⟨u,hu,hh⟩:=cC.1 h5;obtain⟨y,hy,rfl⟩:=aiR.1 hu;exact(ai hR y.2).2 id hh
 case load t x=>obtain⟨v,ft,v1,v2,v3,v4⟩:=JI h;refine⟨_,_,_,_,v2,.read (fun f2 m2 hf hm R' k'=>by simp only[cz];rw[hf x (by simp[Op.operands])];exact v1 m2 hm _ _) fun w0 μ φ a w hR=>?_⟩;obtain⟨y,y1,y2,y3⟩:=v4 _ _ _ _ _ _ hR.toav (ai hR x).1;exact⟨y,by simp[execOp,y1],y2,y3⟩
 case store t x y=>
  obtain⟨m',ft,k1,k2,k3,k4⟩:=RW h;refine⟨_,_,_,_,k1,⟨fun hd=>?_,fun h _=>by(simp[eW]at h),fun w0 μ φ a w K Q hR hK=>?_⟩⟩
  ·obtain⟨id,b,rfl,rfl,d3⟩:=k2 hd;refine⟨rfl,[(id,b)],rfl,by simp,fun f2 m2 hf hm R' k'=>?_⟩;simp only[cz];rw[hf x (by simp[Op.operands]),hf y (by simp[Op.operands])];exact d3 m2 (hm (true,id) (by simp)) _ _
  ·obtain⟨w',μ',s1,s2,s3⟩:=k4 _ _ _ _ _ _ _ hR.toav (ai hR x).1 (ai hR y).1 (ai hR y).2;exact vE (by simp[execOp,s1]) (hK undef w' μ' φ s3 (hR.jD.lS s2 k3) .top (by simp))
 case nilCheck x=>
  have key:∀{v},bA E f x=v→(∀(μ:Ro)(φ:Nat→aA)y,ag E.P μ φ v y→(∃ad,y=.pointer (some ad))∨∃g xs ys,y=.func (.func g) xs ys)→k v f m []=some r→(∀(R':Type)(k':V→Fr→Mem→bq→Option R')(f2:Fr)(m2:Mem),bA E f2 x=v→cz E true site {dst,op:=.nilCheck x,type,pos,after,guard} f2 m2 k'=k' v f2 m2 [])→∃v f' m' ft,k v f' m' ft=some r∧tH E draw site {dst,op:=.nilCheck x,type,pos,after,guard} f m v f' m' ft:=by
   intro v hv hp hk hn;refine⟨v,f,m,[],hk,.read (fun f2 m2 hf _ R' k'=>hn R' k' f2 m2 (by rw[hf x (by simp[Op.operands]),hv])) fun w0 μ φ a w hR=>?_⟩;obtain⟨h1,h2⟩:=ai hR x;rw[hv]at h1 h2;refine⟨a.eval x,?_,h1,h2⟩;rcases hp μ φ _ h1 with⟨ad,e⟩|⟨g,xs,ys,e⟩
   ·simp only[execOp,e];rfl
   ·simp only[execOp,e];rfl
  split at h
  ·rename_i cs hx;exact key hx (fun μ φ y hy=>by cases hy with|pv hy=>cases hy;exact .inl ⟨_,rfl⟩) h fun R' k' f2 m2 e=>by simp only[cz,e]
  ·rename_i id off hx;exact key hx (fun μ φ y hy=>by cases hy;exact .inl ⟨_,rfl⟩) h fun R' k' f2 m2 e=>by simp only[cz,e]
  ·rename_i id i off hx;exact key hx (fun μ φ y hy=>by cases hy;exact .inl ⟨_,rfl⟩) h fun R' k' f2 m2 e=>by simp only[cz,e]
  ·rename_i id i off s j off2 hx;exact key hx (fun μ φ y hy=>by cases hy;exact .inl ⟨_,rfl⟩) h fun R' k' f2 m2 e=>by simp only[cz,e]
  ·rename_i g cs hx;exact key hx (fun μ φ y hy=>by cases hy;exact .inr (pN _ _)) h fun R' k' f2 m2 e=>by simp only[cz,e]
  ·rename_i g cs hx;exact key hx (fun μ φ y hy=>by cases hy with|pv hy=>cases hy;exact .inr (pN _ _)) h fun R' k' f2 m2 e=>by simp only[cz,e]
  ·cases h
 case binOp op t x y ty=>
  have sI:∀(f2:Fr)(m2:Mem)(R':Type)(k':V→Fr→Mem→bq→Option R')(d:Bool),bA E f2 x=bA E f x→bA E f2 y=bA E f y→cz E d site ⟨dst,.binOp op t x y ty,type,pos,after,guard⟩ f2 m2 k'=Jv E op t y (bA E f x) (bA E f y) fun p=>k' (.pv p) f2 m2 []:=by
   intro f2 m2 R' k' d e1 e2;simp only[cz];rw[e1,e2];split
   ·rename_i s es h1 h2;exact absurd h2 (hb op t x y ty s es rfl h1)
   ·rfl
  have h:cz E draw site ⟨dst,.binOp op t x y ty,type,pos,after,guard⟩ f m k=some r:=by simp only[cz];exact h
  rw[sI f m R k draw rfl rfl]at h;obtain⟨q,q1,q2,q3⟩:=UD h;refine⟨_,_,_,_,q2,.read (fun f2 m2 hf hm R' k'=>by rw[sI f2 m2 R' k' true (hf x (by simp[Op.operands])) (hf y (by simp[Op.operands]))];exact q1 _ _) fun w0 μ φ a w hR=>?_⟩;obtain⟨z,z1,z2⟩:=q3 μ φ w x _ _ (fun hn=>by
   unfold C0 at hn;split at hn
   ·rfl
   ·cases hn) (ai hR x).1 (ai hR y).1
  exact⟨z,by simp only[rS]at z1;simp only[execOp,Sem.run_bind,Sem.run_pure]at z1⊢;rw[z1];rfl,.pv z2,by simp⟩
 case unOp op t x=>obtain⟨q,q1,q2,q3⟩:=aaa h;refine⟨_,_,_,_,q2,.read (fun f2 m2 hf hm R' k'=>by simp only[cz];rw[hf x (by simp[Op.operands])];exact q1 _ _) fun w0 μ φ a w hR=>?_⟩;obtain⟨z,z1,z2⟩:=q3 E.P μ φ w _ (ai hR x).1;exact⟨z,by simp[execOp,z1],.pv z2,by simp⟩
 case convert s d x=>obtain⟨q,ft,q1,q2,_,q3⟩:=Si h;refine⟨_,_,_,_,q2,.read (fun f2 m2 hf hm R' k'=>by simp only[cz];rw[hf x (by simp[Op.operands])];exact q1 m2 hm _ _) fun w0 μ φ a w hR=>?_⟩;obtain⟨z,z1,z2⟩:=q3 _ _ μ φ w _ hR.toav (ai hR x).1;exact⟨z,by simp[execOp,z1],.pv z2,by simp⟩
 case fieldAddr s x j=>obtain⟨v,v1,v2,v3,v4⟩:=Fc h;refine⟨_,_,_,_,v2,.read (fun f2 m2 hf hm R' k'=>by simp only[cz];rw[hf x (by simp[Op.operands])];exact v1 _ _) fun w0 μ φ a w hR=>?_⟩;obtain⟨z,z1,z2⟩:=v4 μ φ w _ (ai hR x).1;exact⟨z,by simp[execOp,z1],z2,fun id hid=>(ai hR x).2 id (by rw[←v3];exact hid)⟩
 case field s x j=>obtain⟨v,v1,v2,v3,v4⟩:=RP h;refine⟨_,_,_,_,v2,.read (fun f2 m2 hf hm R' k'=>by simp only[cz];rw[hf x (by simp[Op.operands])];exact v1 _ _) fun w0 μ φ a w hR=>?_⟩;obtain⟨z,z1,z2⟩:=v4 μ φ w _ (ai hR x).1;exact⟨z,by simp[execOp,z1],z2,fun id hid=>(ai hR x).2 id (v3 id hid)⟩
 case indexAddr t x ix=>obtain⟨v,ft,v1,v2,v3,v4,v5⟩:=Fe h;refine⟨_,_,_,_,v2,.read (fun f2 m2 hf hm R' k'=>by simp only[cz];rw[hf x (by simp[Op.operands]),hf ix (by simp[Op.operands])];exact v1 m2 hm _ _) fun w0 μ φ a w hR=>?_⟩;obtain⟨z,z1,z2⟩:=v5 _ _ μ φ w _ _ hR.toav (ai hR x).1 (ai hR ix).1;exact⟨z,by simp[execOp,z1],z2,fun id hid=>(ai hR x).2 id (v4 id hid)⟩
 case index t x ix=>obtain⟨v,v1,v2,v3,v4⟩:=RQ h;refine⟨_,_,_,_,v2,.read (fun f2 m2 hf hm R' k'=>by simp only[cz];rw[hf x (by simp[Op.operands]),hf ix (by simp[Op.operands])];exact v1 _ _) fun w0 μ φ a w hR=>?_⟩;obtain⟨z,z1,z2⟩:=v4 μ φ w _ _ (ai hR x).1 (ai hR ix).1;exact⟨z,by simp[execOp,z1],z2,fun id hid=>(ai hR x).2 id (v3 id hid)⟩
 case lookup t x ix ok=>
  split at h
  ·rename_i hn;have Cr:ok=false:=by cases ok<;>simp at hn⊢
   subst Cr;obtain⟨id,b1,b2,m',rfl,hk,hs,uw,Y0,hid,JQ,aaj⟩:=Uu h;refine⟨_,_,_,_,hk,⟨fun hd=>⟨rfl,[(id,b1),(site,b2)],rfl,by simp,fun f2 m2 hf hm R' k'=>?_⟩,fun _ h=>absurd (h (true,id) (by simp)) (by simp),fun w0 μ φ a w K Q hR hK=>?_⟩⟩
   ·simp only[cz];rw[AI hn,hf x (by simp[Op.operands]),hf ix (by simp[Op.operands])];exact JQ m2 (hm (true,id) (by simp)) (by rw[hm (true,site) (by simp)];exact hs) _ _
   ·obtain⟨u,φ',u1,u2,u3,u4⟩:=aaj _ _ _ _ _ _ _ _ _ hR.toav hR.jD (ai hR x).1 (ai hR ix).1;exact fv (y:=u) (w':=w) (by simp[execOp,u1]) (hK u w μ φ' u2 u3 u4 fun j hj=>by have hj:=BY hj;subst hj;simp[sw])
  rename_i hn;obtain⟨v,ft,v1,v2,v3,v4,v5⟩:=MU h;refine⟨_,_,_,_,v2,.read (fun f2 m2 hf hm R' k'=>by simp only[cz];rw[By hn,hf x (by simp[Op.operands]),hf ix (by simp[Op.operands])];exact v1 m2 hm _ _) fun w0 μ φ a w hR=>?_⟩;obtain⟨z,z1,z2⟩:=v5 _ _ μ φ w _ _ hR.toav (ai hR x).1 (ai hR ix).1;exact⟨z,by simp[execOp,z1],z2,fun id hid=>by rw[v4]at hid;cases hid⟩
 case mapUpdate t x key val=>
  obtain⟨m',ft,k1,k2,k3,k4⟩:=xB h;refine⟨_,_,_,_,k1,⟨fun hd=>?_,fun h _=>by(simp[eW]at h),fun w0 μ φ a w K Q hR hK=>?_⟩⟩
  ·obtain⟨id,b,rfl,rfl,d3⟩:=k2 hd;refine⟨rfl,[(id,b)],rfl,by simp,fun f2 m2 hf hm R' k'=>?_⟩;simp only[cz];rw[hf x (by simp[Op.operands]),hf key (by simp[Op.operands]),hf val (by simp[Op.operands])];exact d3 m2 (hm (true,id) (by simp)) _ _
  ·obtain⟨w',μ',s1,s2,s3⟩:=k4 _ _ _ _ _ _ _ _ hR.toav (ai hR x).1 (ai hR key).1 (ai hR val).1;exact vE (by simp[execOp,s1]) (hK undef w' μ' φ s3 (hR.jD.lS s2 k3) .top (by simp))
 case insert t x key val=>
  obtain⟨m',ft,k1,k2,k3,k4⟩:=xB h;refine⟨_,_,_,_,k1,⟨fun hd=>?_,fun h _=>by(simp[eW]at h),fun w0 μ φ a w K Q hR hK=>?_⟩⟩
  ·obtain⟨id,b,rfl,rfl,d3⟩:=k2 hd;refine⟨rfl,[(id,b)],rfl,by simp,fun f2 m2 hf hm R' k'=>?_⟩;simp only[cz];rw[hf x (by simp[Op.operands]),hf key (by simp[Op.operands]),hf val (by simp[Op.operands])];exact d3 m2 (hm (true,id) (by simp)) _ _
  ·obtain⟨w',μ',s1,s2,s3⟩:=k4 _ _ _ _ _ _ _ _ hR.toav (ai hR x).1 (ai hR key).1 (ai hR val).1;exact vE (by simp[execOp,s1]) (hK undef w' μ' φ s3 (hR.jD.lS s2 k3) .top (by simp))
 case extract t i=>
  split at h
  ·rename_i vs hx;split at h
   ·rename_i v hv;refine⟨_,_,_,_,h,.read (fun f2 m2 hf hm R' k'=>by simp only[cz];rw[hf t (by simp[Op.operands]),hx];simp only[hv]) fun w0 μ φ a w hR=>?_⟩;obtain⟨h1,h2⟩:=ai hR t;rw[hx]at h1 h2;generalize hy:a.eval t=y at h1;cases h1 with
    | @aP _ xs t1 t2=>
     have bT:i<xs.size:=by have:=(AT.1 hv).1;omega
     refine⟨xs[i],by simp[execOp,hy,Instr.extract,bT],t2 i v _ hv (IN bT),fun id hid=>h2 id (by simp only[V.has];exact bH (abV hv) hid)⟩
   ·cases h
  ·cases h
 case makeSlice t l c=>
  obtain⟨f',m',b,hd,hk,vd,hs⟩:=Fj h;refine⟨_,_,_,_,hk,.make (fun xz=>⟨(hd xz).1,(hd xz).2.1,(hd xz).2.2.1⟩) (fun xz f2 m2 hf hs' R' k'=>?_) fun w0 μ φ a w hR=>?_⟩
  ·simp only[cz];rw[hf l (by simp[Op.operands]),hf c (by simp[Op.operands])];exact(hd xz).2.2.2 f2 m2 hs' _ _
  ·obtain⟨w',y,φ',r1,r2,r3,r4⟩:=hs _ w0 μ φ w (an E.fn.ntmps w0 a) _ _ hR.toav hR.jD (ai hR l).1 (ai hR c).1;refine⟨y,w',μ,φ',by simp[execOp,r1],r2,r3,r4,fun id hid=>?_⟩;have hid:=BY hid;subst hid;exact vd
 case makeMap t hint=>
  split at h
  ·rename_i hh;split at h
   ·rename_i kt et hu;split at h
    ·rename_i hk;obtain⟨ks,Uc⟩:=aiO.1 hk;have JQ:∀f2:Fr,(∀x∈(Op.makeMap t hint).operands,bA E f2 x=bA E f x)→G1 E f2 hint=true:=fun f2 hf=>by
      cases hint with
      |none=>rfl
      |some x=>simp only[G1]at hh⊢;rw[hf x (by simp[Op.operands])];exact hh
     have mk:∀b:bF,(∀i off,b.rowAt i off=true→False)→(∀(μ:Ro)(φ':Nat→aA)(w:World),(φ' site).g=some w.heap.size→gf E.P μ φ' (w.alloc (.map #[] 0)) site b)→(∀id,b.names id=false)→(∀st,b≠.loop st)→fresh draw site b f m (fun f m ft=>k (.om site) f m ft)=some r→(∀(f2:Fr)(m2:Mem),(∀x∈(Op.makeMap t hint).operands,bA E f2 x=bA E f x)→m2 site=none→∀(R':Type)(k':V→Fr→Mem→bq→Option R'),cz E true site ⟨dst,.makeMap t hint,type,pos,after,guard⟩ f2 m2 k'=k' (.om site) f2 (al m2 site b) [(true,site)])→∃v f' m' ft,k v f' m' ft=some r∧tH E draw site ⟨dst,.makeMap t hint,type,pos,after,guard⟩ f m v f' m' ft:=by
      intro b Mn jR hnm hlp h T4;obtain⟨f',m',hn,pX,vd,xz,uS⟩:=dY h Mn;refine⟨_,_,_,_,pX,.make xz (fun _ f2 m2 hf hs R' k'=>T4 f2 m2 hf hs R' k') fun w0 μ φ a w hR=>?_⟩;obtain⟨φ',a1,a2,a3⟩:=uS E.P E.aF w0 μ φ w _ _ (Cn (some w.heap.size) 0 0 0) hR.toav hR.jD (jM.alloc (o:=.map #[] 0) hR.toav rfl (fun φ' hp _=>jR _ _ _ (by rw[hp])) (fun id hid=>by rw[hnm]at hid;cases hid) (fun st h=>absurd h (hlp st)));have ob:(Instr.makeMap t (hint.map a.eval)).run E.P w=.ok (.map (some w.heap.size)) (w.alloc (.map #[] 0)):=by
       cases hint with
       |none=>rfl
       |some x=>
        have h1:=(ai hR x).1;simp only[G1]at hh;split at hh
        ·rename_i q n hx;rw[hx]at h1;generalize hy:a.eval x=y at h1;cases h1 with
         |pv h1=>cases h1;simp[Instr.makeMap,hy,run_underlying hu,Go.asInt,asIntOf,newObj];rfl
        ·cases hh
      refine⟨.map (some w.heap.size),w.alloc (.map #[] 0),μ,φ',by simp only[execOp,Sem.run_bind,ob];rfl,a2,a3,.om (by rw[a1]),fun id hid=>?_⟩;have hid:=BY hid;subst hid;simp[vd]
     split at h
     ·rename_i aak;split at h
      ·rename_i e hue;exact mk (.eV kt e []) (fun i off h=>by cases off<;>simp[bF.rowAt]at h) (fun μ φ' w hg=>⟨w.heap.size,#[],0,ks,hg,fj w _,rfl,Uc,by simp,fun i e h=>by simp at h,by simp⟩) (fun _=>rfl) (fun st h=>by cases h) h fun f2 m2 hf hs R' k'=>by simp only[cz,JQ f2 hf,hu,hk,fresh,hs,IS,aak,hue]
      ·cases h
     ·rename_i aak;exact mk (.map kt []) (fun i off h=>by simp[bF.rowAt]at h) (fun μ φ' w hg=>JR Uc hg) (fun _=>rfl) (fun st h=>by cases h) h fun f2 m2 hf hs R' k'=>by simp only[cz,JQ f2 hf,hu,hk,fresh,hs,IS];rw[By aak]
    ·cases h
   ·cases h
  ·cases h
 case makeFunc fn first caps=>
  cases fn<;>simp only at h;case func g=>
   cases Uy:Nat.blt g CY with
   |false=>rw[Uy]at h;cases h
   |true=>
   rw[Uy]at h;simp only[cond_true]at h;split at h
   ·rename_i aal;have hf0:first= #[]:=by simpa using aal
    subst hf0;refine⟨_,_,_,_,h,.read (fun f2 m2 hf hm R' k'=>?_) fun w0 μ φ a w hR=>⟨.func (.func g) #[] (caps.map a.eval),by simp[execOp,Instr.makeFunc],by rw[←pM Uy];exact .fn (kj hR).1 (kj hR).2,fun id hid=>py hR (by simpa only[V.has]using hid)⟩⟩;simp only[cz,Uy,cond_true];rw[AI (by simp),nC fun x hx=>hf x (by simpa[Op.operands]using hx)]
   ·rename_i aal;split at h
    ·rename_i hcp;have hc0:caps= #[]:=by simpa using hcp
     subst hc0;refine⟨_,_,_,_,h,.read (fun f2 m2 hf hm R' k'=>?_) fun w0 μ φ a w hR=>⟨.func (.func g) (first.map a.eval) #[],by simp[execOp,Instr.makeFunc],by rw[←UG];exact .fn (kj hR).1 (kj hR).2,fun id hid=>py hR (by simpa only[V.has]using hid)⟩⟩;simp only[cz,Uy,cond_true];rw[By aal,AI (by simp),nC fun x hx=>hf x (by simpa[Op.operands]using hx)]
    ·cases h
  all_goals (cases h)
 case slice t x lo hi mx=>
  obtain⟨v,ft,v1,v2,v3,v4,v6⟩:=RR h;have hlo:∀f2:Fr,(∀y∈(Op.slice t x lo hi mx).operands,bA E f2 y=bA E f y)→lo.map (bA E f2)=lo.map (bA E f)∧hi.map (bA E f2)=hi.map (bA E f)∧mx.map (bA E f2)=mx.map (bA E f):=fun f2 hf=>by
   refine⟨?_,?_,?_⟩
   ·cases lo with
    |none=>rfl
    |some y=>simp only[aff];rw[hf y (by simp[Op.operands])]
   ·cases hi with
    |none=>rfl
    |some y=>simp only[aff];rw[hf y (by simp[Op.operands])]
   ·cases mx with
    |none=>rfl
    |some y=>simp only[aff];rw[hf y (by simp[Op.operands])]
  refine⟨_,_,_,_,v2,.read (fun f2 m2 hf hm R' k'=>by simp only[cz];rw[hf x (by simp[Op.operands]),(hlo f2 hf).1,(hlo f2 hf).2.1,(hlo f2 hf).2.2];exact v1 m2 hm _ _) fun w0 μ φ a w hR=>?_⟩;obtain⟨z,z1,z2⟩:=v6 _ _ μ φ w (a.eval x) (lo.map a.eval) (hi.map a.eval) (mx.map a.eval) hR.toav (ai hR x).1 (fun v hv=>by
   obtain⟨y,rfl,rfl⟩:=Yo.1 hv;exact⟨_,rfl,(ai hR y).1⟩) (fun hv=>by cases lo<;>simp at hv⊢) (fun v hv=>by
   obtain⟨y,rfl,rfl⟩:=Yo.1 hv;exact⟨_,rfl,(ai hR y).1⟩) (fun hv=>by cases hi<;>simp at hv⊢) (fun v hv=>by
   obtain⟨y,rfl,rfl⟩:=Yo.1 hv;exact⟨_,rfl,(ai hR y).1⟩) (fun hv=>by cases mx<;>simp at hv⊢)
  exact⟨z,by simp[execOp,z1],z2,fun id hid=>(ai hR x).2 id (v4 id hid)⟩
 case buildSlice t len parts=>
  split at h
  ·rename_i e hu;split at h
   ·rename_i Tu;split at h
    ·rename_i cs mJ;split at h
     ·rename_i hc;obtain⟨hlen,sI,AQ,MQ⟩:=hc;obtain⟨zc,Ty⟩:=aiO.1 MQ;obtain⟨iz,zv,z1,z2,z3,_⟩:=ei Ty;obtain⟨p1,p2,p3⟩:=F6 mJ;obtain⟨f',m',hn,hk,vd,xz,uS⟩:=dY h;refine⟨_,_,_,_,hk,.make (b:=.box cs) xz (fun _ f2 m2 hf hs R' k'=>by have Sd:(parts.toList.map fun(x:Nat×Operand)=>(x.1,bA E f2 x.2))=parts.toList.map fun(x:Nat×Operand)=>(x.1,bA E f x.2):=rn fun x hx=>hf x.2 (by simp only[Op.operands,akh,aiR];exact⟨x,hx,rfl⟩);simp only[cz,hu,Tu,IS];rw[Sd];simp only[mJ];rw[AI ⟨hlen,sI,AQ,MQ⟩];simp only[fresh,hs]) fun w0 μ φ a w hR=>?_⟩;have CM:parts.toList.length=len:=by rw[←hlen];simp
      have uU:cs.length=len:=by rw[p1];simp[←CM]
      have JY:∃c0:Array Value,c0.size=0+parts.toList.length∧∀cells,Instr.fill (fun i=>some (i*1,1)) c0 (parts.map fun(i,x)=>(i,a.eval x)).toList=some cells→(Instr.buildSlice t len (parts.map fun(i,x)=>(i,a.eval x))).run E.P w=.ok (.slice (some ⟨w.heap.size,0,none⟩) len len) (w.alloc (.cells cells e)):=by
       by_cases h0:len*aQ E.P e=0
       ·have Mp:len=0:=by rw[sI]at h0;omega
        refine⟨#[],by simp[CM,Mp],fun cells hf=>?_⟩;subst Mp;have G9:parts= #[]:=by apply ajZ;simpa using ahk CM
        subst G9;have hf':cells= #[]:=by simpa[Instr.fill]using hf.symm
        subst hf';simp[Instr.buildSlice,run_underlying hu,sizeOf,typeInfo,z1,newRow,Instr.fill,Array.range_zero']
       ·refine⟨(Array.range (len*aQ E.P e)).map (zv.cells[·%zv.cells.size]!),by simp[CM,sI],fun cells hf=>?_⟩;exact run_buildSlice w t e len _ cells iz zv hu z1 z2 (by rw[z3,sI];omega) (by rw[z3];exact h0) (by rw[z3];simp only[sI]at hf⊢;exact hf)
      obtain⟨c0,c1,c2⟩:=JY;obtain⟨c',d1,d2,d3,d4⟩:=p3 E.P μ φ (parts.map fun(i,x)=>(i,a.eval x)).toList c0 (by simp) (fun j i v hj=>by simp only[GP,Yo]at hj;obtain⟨y,hy,he⟩:=hj;simp only[IT]at he;obtain⟨rfl,rfl⟩:=he;exact⟨a.eval y.2,by simp[hy],(ai hR y.2).1⟩) (by rw[c1];simp);have mI:c'.size=cs.length:=by rw[d2,c1,uU];omega
      have fh:∀(i:Nat)u y,cs[i]?=some u→c'[i]?=some y→ag E.P μ φ u y∧y.oneCell'=true:=fun i u y hu hy=>by obtain⟨z,e1,e2,e3⟩:=d4 i u hu;rw[ajk,hy]at e1;cases e1;exact⟨e2,e3⟩
      obtain⟨φ',a1,a2,a3⟩:=uS E.P E.aF w0 μ φ w (w.alloc (.cells c' e)) _ (Cn (some w.heap.size) len cs.length 1) hR.toav hR.jD (jM.alloc (o:=.cells c' e) hR.toav rfl (fun φ' hp RU=>⟨w.heap.size,c',e,by rw[hp],fj w _,mI,fun i u y hu hy=>(fh i u y hu hy).1.mono (fun _ _ h=>h) fun id hid=>RU id (bH (abV hu) hid),fun i y hy=>by
       have bT:=(OF.1 hy).1;have hu:cs[i]?=some (cs[i]'(by omega)):=cO (by omega);exact(fh i _ y hu hy).2,by rw[hp]⟩) (fun id hid=>by
       have h5:=p2 id hid;rw[akt]at h5;obtain⟨u,hu,hh⟩:=cC.1 h5;obtain⟨y,hy,rfl⟩:=aiR.1 hu;exact(ai hR y.2).2 id hh))
      refine⟨.slice (some ⟨w.heap.size,0,none⟩) len len,w.alloc (.cells c' e),μ,φ',by simp only[execOp,Sem.run_bind,c2 c' d1,Result.andThen_ok,Sem.run_pure],a2,a3,?_,fun id hid=>?_⟩
      ·have:=ag.os (P:=E.P) (μ:=μ) (φ:=φ') (id:=site) (g:=w.heap.size) (by rw[a1]);rw[a1,uU]at this;exact this
      ·have hid:=BY hid;subst hid;simp[vd]
     ·cases h
    ·cases h
   rename_i agz;have hnf:Qn E e=false:=by simpa using agz
   split at h
   ·rename_i hfz;split at h
    ·rename_i es m1 Fl;split at h
     ·rename_i hc;obtain⟨hlen,eB,AQ,MQ⟩:=hc;obtain⟨zc,Ty⟩:=aiO.1 MQ;obtain⟨iz,zv,z1,z2,z3,_⟩:=ei Ty;have hpm:=(qf Fl).2 m;obtain⟨p1,p2,p3⟩:=rW hpm;refine⟨_,_,_,_,h,⟨fun hd=>⟨rfl,[],rfl,by simp,fun f2 m2 hf _ R' k'=>?_⟩,fun _ _=>⟨rfl,rfl⟩,fun w0 μ φ a w K Q hR hK=>?_⟩⟩
      ·have Sd:(parts.toList.map fun(x:Nat×Operand)=>(x.1,bA E f2 x.2))=parts.toList.map fun(x:Nat×Operand)=>(x.1,bA E f x.2):=rn fun x hx=>hf x.2 (by simp only[Op.operands,akh,aiR];exact⟨x,hx,rfl⟩);simp only[cz,hu,hnf,cT,T1,hfz,IS];rw[Sd];simp only[Fl];rw[AI ⟨hlen,eB,AQ,MQ⟩];rfl
      have CM:parts.toList.length=len:=by rw[←hlen,p2];simp
      have JY:∃c0:Array Value,c0.size=(0+parts.toList.length)*aQ E.P e∧∀cells,Instr.fill (fun i=>some (i*aQ E.P e,aQ E.P e)) c0 (parts.map fun(i,x)=>(i,a.eval x)).toList=some cells→(Instr.buildSlice t len (parts.map fun(i,x)=>(i,a.eval x))).run E.P w=.ok (.slice (some ⟨w.heap.size,0,none⟩) len len) (w.alloc (.cells cells e)):=by
       by_cases h0:len*aQ E.P e=0
       ·have Mp:len=0:=by rcases Nat.mul_eq_zero.1 h0 with h|h<;>omega
        refine⟨#[],by simp[CM,Mp],fun cells hf=>?_⟩;subst Mp;have G9:parts= #[]:=by apply ajZ;simpa using ahk CM
        subst G9;have hf':cells= #[]:=by simpa[Instr.fill]using hf.symm
        subst hf';simp[Instr.buildSlice,run_underlying hu,sizeOf,typeInfo,z1,newRow,Instr.fill,Array.range_zero']
       ·refine⟨(Array.range (len*aQ E.P e)).map (zv.cells[·%zv.cells.size]!),by simp[CM],fun cells hf=>?_⟩;exact run_buildSlice w t e len _ cells iz zv hu z1 z2 (by rw[z3];omega) (by rw[z3];exact h0) (by rw[z3];exact hf)
      obtain⟨c0,c1,c2⟩:=JY;obtain⟨μ',c',d1,d2,d3,d4,d5⟩:=p3 E.P E.aF w0 μ φ w (parts.map fun(i,x)=>(i,a.eval x)).toList [] c0 hR.toav (by simp) (fun j i v hj=>by simp only[GP,Yo]at hj;obtain⟨y,hy,he⟩:=hj;simp only[IT]at he;obtain⟨rfl,rfl⟩:=he;exact⟨a.eval y.2,by simp[hy],(ai hR y.2).1⟩) rfl (by simpa using c1) (by simpa using Cells.nil);simp only[ajN]at d5;have hb:jS w.heap.size w (w.alloc (.cells c' e)):=(jS.refl _ w).alloc (aiJ _) _;have hA:aH E.P μ' (fun _=>Cn (some w.heap.size) len es.length (aQ E.P e)) (w.alloc (.cells c' e)) 0 (aQ E.P e) e es:=aH.nJ (g:=w.heap.size) rfl rfl eB (by simp only[maxLen,Cn];have:len*1≤len*aQ E.P e:=ajL _ eB;omega) (fj w _) (by simp only[Cn];rw[d4];simp[←CM]) (by simp only[Cn];omega) (by have h1:=d5.len;rw[ajs (by rw[h1];exact aiJ _)];exact d5);have Gb:=jA d2 (w.alloc (.cells c' e));have hV:=hA.Hb (g:=w.heap.size) rfl (lo:=0) (len:=len) (by omega) (cap:=len) (by simp only[Cn];omega) (aiJ _) Gb (by simp[cr]);rw[alx,List.drop_zero,ajs (by omega)]at hV;exact fv (by simp only[execOp,Sem.run_bind,c2 c' d3,Result.andThen_ok,Sem.run_pure]) (hK _ _ _ φ (d2.called hb) ((hR.jD.lS d1 p1).lS Gb (.refl _)) (.pv hV) (fun id hid=>by cases hid))
     ·cases h
    ·cases h
   rename_i agA;split at h
   ·rename_i es m1 Fl;split at h
    ·rename_i hc;obtain⟨hlen,eB,AQ,MQ⟩:=hc;obtain⟨zc,Ty⟩:=aiO.1 MQ;obtain⟨iz,zv,z1,z2,z3,_⟩:=ei Ty;have WM:∃mm,mm=(if draw then m else m1)∧eU m (aQ E.P e) (ax E.P e) 0 (parts.toList.map fun(i,x)=>(i,bA E f x))=some (es,mm):=by
      cases draw with
      |true=>exact⟨m,rfl,(qf Fl).2 m⟩
      |false=>exact⟨m1,rfl,Fl⟩
     obtain⟨mm,hme,hpm⟩:=WM;rw[←hme]at h;obtain⟨p1,p2,p3⟩:=rW hpm;obtain⟨f',m',hn,hk,vd,xz,uS⟩:=dY h;refine⟨_,_,_,_,hk,.make (b:=.arr (aQ E.P e) e es) (fun hd=>by
      have:=xz hd;rw[hd]at hme;simp only[IS]at hme;rw[hme]at this;exact this) (fun hd f2 m2 hf hs R' k'=>by
      subst hd;have Sd:(parts.toList.map fun(x:Nat×Operand)=>(x.1,bA E f2 x.2))=parts.toList.map fun(x:Nat×Operand)=>(x.1,bA E f x.2):=rn fun x hx=>hf x.2 (by simp only[Op.operands,akh,aiR];exact⟨x,hx,rfl⟩);simp only[cz,hu,hnf,cT,T1,agA,IS];rw[Sd];simp only[IS]at Fl;simp only[Fl];rw[AI ⟨hlen,eB,AQ,MQ⟩];simp only[fresh,hs]) fun w0 μ φ a w hR=>?_⟩
     have CM:parts.toList.length=len:=by rw[←hlen,p2];simp
     have JY:∃c0:Array Value,c0.size=(0+parts.toList.length)*aQ E.P e∧∀cells,Instr.fill (fun i=>some (i*aQ E.P e,aQ E.P e)) c0 (parts.map fun(i,x)=>(i,a.eval x)).toList=some cells→(Instr.buildSlice t len (parts.map fun(i,x)=>(i,a.eval x))).run E.P w=.ok (.slice (some ⟨w.heap.size,0,none⟩) len len) (w.alloc (.cells cells e)):=by
      by_cases h0:len*aQ E.P e=0
      ·have Mp:len=0:=by rcases Nat.mul_eq_zero.1 h0 with h|h<;>omega
       refine⟨#[],by simp[CM,Mp],fun cells hf=>?_⟩;subst Mp;have G9:parts= #[]:=by apply ajZ;simpa using ahk CM
       subst G9;have hf':cells= #[]:=by simpa[Instr.fill]using hf.symm
       subst hf';simp[Instr.buildSlice,run_underlying hu,sizeOf,typeInfo,z1,newRow,Instr.fill,Array.range_zero']
      ·refine⟨(Array.range (len*aQ E.P e)).map (zv.cells[·%zv.cells.size]!),by simp[CM],fun cells hf=>?_⟩;exact run_buildSlice w t e len _ cells iz zv hu z1 z2 (by rw[z3];omega) (by rw[z3];exact h0) (by rw[z3];exact hf)
     obtain⟨c0,c1,c2⟩:=JY;obtain⟨μ',c',d1,d2,d3,d4,d5⟩:=p3 E.P E.aF w0 μ φ w (parts.map fun(i,x)=>(i,a.eval x)).toList [] c0 hR.toav (by simp) (fun j i v hj=>by simp only[GP,Yo]at hj;obtain⟨y,hy,he⟩:=hj;simp only[IT]at he;obtain⟨rfl,rfl⟩:=he;exact⟨a.eval y.2,by simp[hy],(ai hR y.2).1⟩) rfl (by simpa using c1) (by simpa using Cells.nil);simp only[ajN]at d5;obtain⟨φ',a1,a2,a3⟩:=uS E.P E.aF w0 μ' φ w _ _ (Cn (some w.heap.size) len es.length (aQ E.P e)) d2 (hR.jD.lS d1 p1) (jM.alloc (o:=.cells c' e) d2 rfl (fun φ' hp _=>aH.nJ (g:=w.heap.size) (by rw[hp]) rfl eB (by rw[hp];simp only[maxLen];have:len*1≤len*aQ E.P e:=ajL _ eB;omega) (fj w _) (by rw[hp,d4];simp[←CM]) (by rw[hp];simp[hlen]) (by have h1:=d5.len;rw[ajs (by rw[h1];exact aiJ _)];exact d5)) (by simp[bF.names]));refine⟨.slice (some ⟨w.heap.size,0,none⟩) len len,w.alloc (.cells c' e),μ',φ',by simp only[execOp,Sem.run_bind,c2 c' d3,Result.andThen_ok,Sem.run_pure],a2,a3,?_,fun id hid=>?_⟩
     ·have:=ag.os (P:=E.P) (μ:=μ') (φ:=φ') (id:=site) (g:=w.heap.size) (by rw[a1]);rw[a1,hlen]at this;exact this
     ·have hid:=BY hid;subst hid;simp[vd]
    ·cases h
   ·cases h
  ·cases h
 case call c=>exact absurd rfl (hc c)
 case range t x=>cases hit
 case next x s=>cases hit
 case entry x=>cases hit
 all_goals (cases h)
variable{dst:Option Nat}{after:Array Edge}{guard:Option (Nat×Bool)}
theorem UH(hE:je E){callee:Callee}{argTypes:Array TypeId}{type:TypeId}{pos:String}(h:cz E draw site ⟨dst,.call ⟨callee,args,argTypes⟩,type,pos,after,guard⟩ f m k=some r):(∃v f' m' ft,k v f' m' ft=some r∧tH E draw site ⟨dst,.call ⟨callee,args,argTypes⟩,type,pos,after,guard⟩ f m v f' m' ft)∨(draw=false∧DN E ⟨dst,.call ⟨callee,args,argTypes⟩,type,pos,after,guard⟩ f m k r):=by
 unfold cz at h;simp only at h;have qd:∀f2:Fr,(∀x∈(Op.call ⟨callee,args,argTypes⟩).operands,bA E f2 x=bA E f x)→args.toList.map (bA E f2)=args.toList.map (bA E f):=fun f2 hf=>nC fun x hx=>hf x (by simp_all[Op.operands,Call.operands]);have jR:=fun{w0 μ φ a w}(hR:Rel E.P E.aF E.fn.ntmps w0 μ φ f m a w)=>kj hR (args:=args);have known:∀(g:FuncId)(vs:List V),ur E draw site g vs f m k=some r→(∀w0 μ φ a w,Rel E.P E.aF E.fn.ntmps w0 μ φ f m a w→∃xs,(execOp a.eval ⟨dst,.call ⟨callee,args,argTypes⟩,type,pos,after,guard⟩).run E.P w=(callFunc g xs).run E.P w∧vs.length=xs.size∧(∀(i:Nat)v x,vs[i]?=some v→xs[i]?=some x→ag E.P μ φ v x)∧∀id,cd id vs=true→(m id).isSome=true)→(∀(f2:Fr)(m2:Mem),(∀x∈(Op.call ⟨callee,args,argTypes⟩).operands,bA E f2 x=bA E f x)→∀(R':Type)(k':V→Fr→Mem→bq→Option R'),cz E true site ⟨dst,.call ⟨callee,args,argTypes⟩,type,pos,after,guard⟩ f2 m2 k'=ur E true site g vs f2 m2 k')→(∃v f' m' ft,k v f' m' ft=some r∧tH E draw site ⟨dst,.call ⟨callee,args,argTypes⟩,type,pos,after,guard⟩ f m v f' m' ft)∨(draw=false∧DN E ⟨dst,.call ⟨callee,args,argTypes⟩,type,pos,after,guard⟩ f m k r):=by
  intro g vs hx ob JQ;obtain h0|⟨xz,⟨fn,c,f1,f2,f3⟩,k5⟩:=Ur hE hx;rotate_left
  ·refine .inr ⟨xz,And.intro (fun c x y h=>by cases h) fun rd w0 μ φ a w K Q _ hR hK=>AR (fun c h=>by cases h) ?_⟩;obtain⟨xs,x1,x2,x3,x4⟩:=ob w0 μ φ a w hR;unfold Oper.wp;rw[x1,wU f1 f3 f2];rw[Oper.upon_enter];refine(k5 w0 μ φ _ w xs hR.toav hR.jD x2 x3 x4).mono ?_;grind
  obtain⟨v,f',m',ft,k1,k2,ks,⟨fn,c,f1,f2,f3⟩,k5⟩:=h0;refine .inl ⟨v,f',m',ft,k1,⟨fun hd=>?_,fun _ h=>ks h,fun w0 μ φ a w K Q hR hK=>?_⟩⟩
  ·obtain⟨d1,wr,d2,d3,d4⟩:=k2 hd;exact⟨d1,wr.toList,by rw[d2];cases wr<;>rfl,fun x hx=>(by grind),fun f2 m2 hf hm R' k'=>by rw[JQ f2 m2 hf,d4 f2 m2 hm R' k'];cases wr<;>rfl⟩
  ·obtain⟨xs,x1,x2,x3,x4⟩:=ob w0 μ φ a w hR;unfold Oper.wp;rw[x1,wU f1 f3 f2];rw[Oper.upon_enter];refine(k5 w0 μ φ _ w xs hR.toav hR.jD x2 x3 x4).mono ?_;grind
 have read:∀{v:V}{ft:bq},k v f m ft=some r→(∀(f2:Fr)(m2:Mem),(∀x∈(Op.call ⟨callee,args,argTypes⟩).operands,bA E f2 x=bA E f x)→(∀x∈ft,m2 x.2=m x.2)→∀(R':Type)(k':V→Fr→Mem→bq→Option R'),cz E true site ⟨dst,.call ⟨callee,args,argTypes⟩,type,pos,after,guard⟩ f2 m2 k'=k' v f2 m2 ft)→(∀w0 μ φ a w,Rel E.P E.aF E.fn.ntmps w0 μ φ f m a w→∃y,(execOp a.eval ⟨dst,.call ⟨callee,args,argTypes⟩,type,pos,after,guard⟩).run E.P w=.ok (.value y) w∧ag E.P μ φ v y∧∀id,v.has id=true→(m id).isSome=true)→(∃v f' m' ft,k v f' m' ft=some r∧tH E draw site ⟨dst,.call ⟨callee,args,argTypes⟩,type,pos,after,guard⟩ f m v f' m' ft)∨(draw=false∧DN E ⟨dst,.call ⟨callee,args,argTypes⟩,type,pos,after,guard⟩ f m k r):=fun hk hn hs=>.inl ⟨_,_,_,_,hk,.read hn hs⟩;have one:∀{l:List Operand}{u:V},l.map (bA E f)=[u]→∃x,l=[x]∧u=bA E f x:=by simp_all
 have two:∀{l:List Operand}{u v:V},l.map (bA E f)=[u,v]→∃x y,l=[x,y]∧u=bA E f x∧v=bA E f y:=by
  intro l u v h;match l with
  |[]=>simp at h
  |[x]=>simp at h
  |[x,y]=>grind
  |_::_::_::_=>simp at h
 have four:∀{l:List Operand}{u1 u2 u3 u4:V},l.map (bA E f)=[u1,u2,u3,u4]→∃x y z t,l=[x,y,z,t]∧u1=bA E f x∧u2=bA E f y∧u3=bA E f z∧u4=bA E f t:=by
  intro l u1 u2 u3 u4 h;match l with
  |[]=>simp at h
  |[x]=>simp at h
  |[x,y]=>simp at h
  |[x,y,z]=>simp at h
  |[x,y,z,t]=>grind
  |_::_::_::_::_::_=>simp at h
 have aam:∀{A:Type}{xs:Array A}{x:A},xs.toList=[x]→xs= #[x]:=fun h=>ajZ (by omega);have UI:∀{A:Type}{xs:Array A}{x y:A},xs.toList=[x,y]→xs= #[x,y]:=fun h=>ajZ (by omega);split at h
 ·rename_i u hu;obtain⟨x,hx,rfl⟩:=one hu;split at h
  ·rename_i t ht;obtain⟨v,ft,v1,v2,v3,v4,v5⟩:=Xc h;refine read v2 (fun f2 m2 hf hm R' k'=>?_) (fun w0 μ φ a w hR=>?_)
   ·grind [cz]
   ·have e1:=aam hx;have e2:=aam ht;subst e1;subst e2;obtain⟨z,z1,z2⟩:=v5 _ _ μ φ w _ type hR.toav (ai hR x).1 (ai hR x).2;exact⟨z,by simp[execOp,resolve,invoke,builtin,z1],z2,fun id hid=>by grind⟩
  ·cases h
 ·rename_i u u' hu;obtain⟨x,y,hx,rfl,rfl⟩:=two hu;split at h
  ·rename_i t t' ht;obtain⟨hd,ht',place,f',m',k1,k2,k3⟩:=MR h;subst ht';refine .inl ⟨_,_,_,_,k1,⟨fun hd'=>(by grind),fun h _=>by(simp[eW]at h),fun w0 μ φ a w K Q hR hK=>?_⟩⟩;have e1:=UI hx;have e2:=UI ht;subst e1;subst e2;obtain⟨w',z,φ',z1,z2,z3,z4⟩:=k3 _ w0 μ φ w (an E.fn.ntmps w0 a) _ _ type hR.toav hR.jD (ai hR x).1 (ai hR y).1;exact fv (y:=z) (w':=w') (by simp[execOp,resolve,invoke,builtin,z1]) (hK z w' μ φ' z2 z3 z4 fun id hid=>by have hid:=BY hid;subst hid;omega)
  ·cases h
 ·rename_i u u' hu;obtain⟨x,y,hx,rfl,rfl⟩:=two hu;split at h
  ·rename_i t ts ht;obtain⟨n,id,b,ft,c1,c2,c3⟩:=Un h;refine .inl ⟨_,_,_,_,c2,⟨fun hd=>⟨rfl,[(id,b)],rfl,by simp,fun f2 m2 hf hm R' k'=>?_⟩,fun h _=>by(simp[eW]at h),fun w0 μ φ a w K Q hR hK=>?_⟩⟩
   ·simp only[cz,qd f2 hf,hu,ht];exact c1 m2 hm _ _
   ·have e1:=UI hx;subst e1;have e2:argTypes=(t::ts).toArray:=ajZ (by omega);subst e2;obtain⟨w',φ',z1,z2,z3,z4⟩:=c3 _ w0 μ φ w (an E.fn.ntmps w0 a) f _ _ ts type hR.toav hR.jD (ai hR x).1 (ai hR y).1;exact fv (y:=.int .i64 n) (w':=w') (by simp only[execOp,resolve,invoke,builtin,Sem.run_bind,Sem.run_pure,Result.andThen_ok];rw[show(#[x,y].map a.eval)= #[a.eval x,a.eval y] by simp,z1];rfl) (hK _ w' μ φ' z2 z3 (.pv (.int z4)) (by simp))
  ·cases h
 ·rename_i u hu;obtain⟨x,hx,rfl⟩:=one hu;split at h
  ·rename_i t ts ht;obtain⟨id,b,c1,c2,c3⟩:=RZ h;refine .inl ⟨_,_,_,_,c2,⟨fun hd=>⟨rfl,[(id,b)],rfl,by simp,fun f2 m2 hf hm R' k'=>?_⟩,fun h _=>by(simp[eW]at h),fun w0 μ φ a w K Q hR hK=>?_⟩⟩
   ·simp only[cz,qd f2 hf,hu,ht];exact c1 m2 (hm (true,id) (by simp)) _ _
   ·have e1:=aam hx;subst e1;have e2:argTypes=(t::ts).toArray:=ajZ (by omega);subst e2;obtain⟨w',z1,z2,z3⟩:=c3 _ w0 μ φ w (an E.fn.ntmps w0 a) f _ ts type hR.toav hR.jD (ai hR x).1;exact fv (y:=.tuple #[]) (w':=w') (by simp only[execOp,resolve,invoke,builtin,Sem.run_bind,Sem.run_pure,Result.andThen_ok];rw[show(#[x].map a.eval)= #[a.eval x] by simp,z1];rfl) (hK _ w' μ φ z2 z3 .top (by simp))
  ·cases h
 ·rename_i u u' hu;obtain⟨x,y,hx,rfl,rfl⟩:=two hu;obtain⟨q,q1,q2,q3⟩:=Ue h;refine read q2 (fun f2 m2 hf hm R' k'=>?_) (fun w0 μ φ a w hR=>?_)
  ·grind [cz]
  ·have e1:=UI hx;subst e1;obtain⟨z,z1,z2⟩:=q3 E.P μ φ w _ _ (ai hR x).1 (ai hR y).1;exact⟨z,by simp[execOp,resolve,invoke,builtin,Builtin.min_,z1],.pv z2,by simp⟩
 ·rename_i u u' hu;obtain⟨x,y,hx,rfl,rfl⟩:=two hu;obtain⟨q,q1,q2,q3⟩:=zl h;refine read q2 (fun f2 m2 hf hm R' k'=>?_) (fun w0 μ φ a w hR=>?_)
  ·grind [cz]
  ·have e1:=UI hx;subst e1;obtain⟨z,z1,z2⟩:=q3 E.P μ φ w _ _ (ai hR x).1 (ai hR y).1;exact⟨z,by simp[execOp,resolve,invoke,builtin,Builtin.max_,z1],.pv z2,by simp⟩
 ·rename_i u1 u2 u3 u4 hu;obtain⟨x,y,z,t,hx,rfl,rfl,rfl,rfl⟩:=four hu;obtain⟨q,q1,q2,q3⟩:=Uf h;refine read q2 (fun f2 m2 hf hm R' k'=>?_) (fun w0 μ φ a w hR=>?_)
  ·grind [cz]
  ·have e1:args= #[x,y,z,t]:=ajZ (by omega);subst e1;obtain⟨v1,v2,v3,z1,z2,z3,z4⟩:=q3 E.P μ φ w _ _ _ _ (ai hR x).1 (ai hR y).1 (ai hR z).1 (ai hR t).1;exact⟨v3,by simp[execOp,resolve,invoke,builtin,Builtin.max_,z1,z2,z3],.pv z4,by simp⟩
 ·rename_i _ g;refine known g _ h (fun w0 μ φ a w hR=>⟨args.map a.eval,?_,(kj hR).1,(kj hR).2,fun id hid=>py hR hid⟩) (fun f2 m2 hf R' k'=>?_)
  ·simp[execOp,resolve,Deferred.ofValue,invoke,Act.eval]
  ·simp only[cz,qd f2 hf]
 ·rename_i _ tm;split at h
  ·rename_i g caps od;refine known (uv g) _ h (fun w0 μ φ a w hR=>?_) (fun f2 m2 hf R' k'=>?_)
   ·have h1:=(ai hR (.tmp tm)).1;rw[od]at h1;have hlc:=(ai hR (.tmp tm)).2;rw[od]at hlc;generalize hy:a.eval (.tmp tm)=y at h1;cases h1 with
    | @fn _ _ xs c1 c2=>
     obtain⟨o1,o2⟩:=kj hR (args:=args);obtain⟨b1,b2⟩:=QI (g:=g) (by simp) o2 c1 c2;refine⟨zq g xs (args.map a.eval),?_,b1,b2,fun id hid=>?_⟩
     ·cases e:Nat.blt g CY with
      |true=>rw[pM e]at hy;simp[execOp,resolve,Deferred.ofValue,invoke,hy,uv,zq,e]
      |false=>rw[JK e]at hy;simp[execOp,resolve,Deferred.ofValue,invoke,hy,uv,zq,e]
     ·obtain⟨v,hv,hh⟩:=cC.1 hid;rcases UF hv with hv|hv
      ·exact py hR (cC.2 ⟨v,hv,hh⟩)
      ·exact hlc id (by simp only[V.has];exact cC.2 ⟨v,hv,hh⟩)
   ·have:=hf (.tmp tm) (by simp[Op.operands,Call.operands]);simp only[cz,qd f2 hf,this,od]
  ·rename_i g caps od;refine known (uv g) _ h (fun w0 μ φ a w hR=>?_) (fun f2 m2 hf R' k'=>?_)
   ·have h1:=(ai hR (.tmp tm)).1;rw[od]at h1;generalize hy:a.eval (.tmp tm)=y at h1;cases h1 with
    |pv h1=>cases h1 with
     | @fn _ _ xs c1 c2=>
      obtain⟨o1,o2⟩:=kj hR (args:=args);obtain⟨b1,b2⟩:=QI (g:=g) (caps:=caps.map .pv) (xs:=xs) (by simp) o2 (by simpa using c1) (fun i v x hv hx=>by simp only[GP,Yo]at hv;obtain⟨q,hq,rfl⟩:=hv;exact .pv (c2 _ q x hq hx));refine⟨zq g xs (args.map a.eval),?_,b1,b2,fun id hid=>?_⟩
      ·cases e:Nat.blt g CY with
       |true=>rw[pM e]at hy;simp[execOp,resolve,Deferred.ofValue,invoke,hy,uv,zq,e]
       |false=>rw[JK e]at hy;simp[execOp,resolve,Deferred.ofValue,invoke,hy,uv,zq,e]
      ·obtain⟨v,hv,hh⟩:=cC.1 hid;rcases UF hv with hv|hv
       ·exact py hR (cC.2 ⟨v,hv,hh⟩)
       ·obtain⟨q,_,rfl⟩:=aiR.1 hv;cases hh
   ·have:=hf (.tmp tm) (by simp[Op.operands,Call.operands]);simp only[cz,qd f2 hf,this,od]
  ·rename_i id od;split at h
   ·cases h
   ·rename_i xz;refine .inr ⟨by simpa using xz,And.intro (fun c x y h=>by cases h) fun rd w0 μ φ a w K Q hY hR hK=>?_⟩;have h1:=(ai hR (.tmp tm)).1;rw[od]at h1;generalize hy:a.eval (.tmp tm)=y at h1;cases h1 with
    | @yl _ g hg=>
     obtain⟨o1,o2⟩:=kj hR (args:=args);obtain⟨fn,tmps,assign,body,y1,y2⟩:=hY _ _ _ _ _ _ _ _ h μ φ (an E.fn.ntmps w0 a) w (args.map a.eval) hR.toav hR.jD (fun t ht=>by unfold an;rw[By (by omega)]) o1 o2 (fun id hid=>py hR hid) g hg;refine⟨fun _ _=>trivial,?_⟩;rw[Oper.semAt_eq _ _ _ (fun c h=>by cases h)];have ob:(execOp a.eval ⟨dst,.call ⟨.value (.tmp tm),args,argTypes⟩,type,pos,after,guard⟩).run E.P w=.ok (.round g fn tmps assign body) w:=by simp only[execOp,resolve,Deferred.ofValue,hy];simpa[invoke]using y1
     rw[ob,Oper.uponIn_round];refine⟨fun h=>(by cases h),(FR.Xv y2).mono ?_⟩;rintro e w' ⟨v,f',m',y,μ',φ',h0,rfl,_,h1,h2,h3,h4⟩;exact hK v f' m' y w' μ' φ' h0 h1 h2 h3 h4
  ·cases h
 ·cases h
theorem JZ{a b:Option R}(h:agree a b=some r):a=some r∧b=some r:=by
 unfold agree at h;split at h
 ·rename_i e;exact⟨h,by rw[←e];exact h⟩
 ·cases h
theorem Sj{op:BinOp}{t:TypeId}{es:List PV}{k:Bool→Option R}(h:MA E op t es k=some r):∃e,E.P.underlying t=some (.slice e)∧((op=.eql∧∀b,(b=true→es=[])→k b=some r)∨(op=.neq∧∀b,(b=false→es=[])→k b=some r)):=by
 unfold MA at h;split at h
 ·rename_i e hu;refine⟨e,hu,.inl ⟨rfl,fun b hb=>?_⟩⟩;split at h
  ·obtain⟨h1,h2⟩:=JZ h;cases b<;>assumption
  ·rename_i dh;cases b with
   |true=>exact absurd (by simp[hb rfl]) dh
   |false=>exact h
 ·rename_i e hu;refine⟨e,hu,.inr ⟨rfl,fun b hb=>?_⟩⟩;split at h
  ·obtain⟨h1,h2⟩:=JZ h;cases b<;>assumption
  ·rename_i dh;cases b with
   |false=>exact absurd (by simp[hb rfl]) dh
   |true=>exact h
 ·cases h
theorem Xx{op:BinOp}{t:TypeId}{x y:Operand}{ty type:TypeId}{pos:String}{s:Nat}{es:List PV}(h:cz E draw site ⟨dst,.binOp op t x y ty,type,pos,after,guard⟩ f m k=some r)(hx:bA E f x=.pv (.rs s es))(hy:bA E f y=.gy):draw=false∧DN E ⟨dst,.binOp op t x y ty,type,pos,after,guard⟩ f m k r:=by
 simp only[cz,hx,hy]at h;split at h
 ·cases h
 ·rename_i hd;refine⟨by simpa using hd,And.intro (fun c x y h=>by cases h) fun rd w0 μ φ a w K Q _ hR hK=>AR (fun c h=>by cases h) ?_⟩;obtain⟨e,hu,hk⟩:=Sj h;have h1:=(ai hR x).1;have h2:=(ai hR y).1;rw[hx]at h1;rw[hy]at h2;generalize hvx:a.eval x=vx at h1;generalize Xk:a.eval y=vy at h2;have E3:∃(ad:Option Addr)(n c:Nat),vx=.slice ad n c∧(ad=none→es=[]):=by
   cases h1 with
   |pv h1=>
    cases h1 with
    |jL=>exact⟨none,0,0,rfl,fun _=>rfl⟩
    |Jm _=>exact⟨_,_,_,rfl,fun _=>rfl⟩
    |rs _ _ _ _ _ _ _=>exact⟨_,_,_,rfl,fun h=>by cases h⟩
  obtain⟨ad,n,c,rfl,Xn⟩:=E3;cases h2;have go:∀b,(binOp op t (.slice ad n c) (.slice none 0 0)).run E.P w=.ok (.bool b) w→k (.pv (.bool b)) f m [(true,0)]=some r→(⟨dst,.binOp op t x y ty,type,pos,after,guard⟩:Oper).wp E.P a w K Q:=fun b hb hkb=>by refine fv (y:=.bool b) (w':=w) ?_ (hK _ _ _ _ _ _ _ hkb hR.toav hR.jD (.pv .bool) (by simp));simp only[execOp,eqGuard_at_slice,Sem.run_bind,Sem.run_pure,hvx,Xk,Result.andThen_ok];rw[hb];rfl
  rcases hk with⟨rfl,hk⟩|⟨rfl,hk⟩
  ·refine go ad.isNone (Lib.run_eql_slice_nil w t e ad n c 0 0 hu) (hk _ fun hb=>Xn (by simpa using hb))
  ·refine go (!ad.isNone) ?_ (hk _ fun hb=>Xn (by simpa using hb));simp only[binOp];simp[Op.equal,Op.maxDepth,Lib.run_equalIn_slice_nil w 9999 t e ad n c 0 0 hu]
theorem UJ(h:cz E draw site o f m k=some r)(hi:ME o.op=true):draw=false∧DN E o f m k r:=by
 obtain⟨dst,op,type,pos,after,guard⟩:=o;unfold cz at h;cases op<;>first|(cases hi;done)|skip
 case range t x=>
  simp only at h;split at h
  ·cases h
  ·rename_i hd;refine⟨by simpa using hd,And.intro (fun c x y h=>by cases h) fun rd w0 μ φ a w K Q _ hR hK=>AR (fun c h=>by cases h) ?_⟩;obtain⟨f',m',hk,hl,hs⟩:=R6 h;obtain⟨w',y',μ',φ',r1,r2,r3,r4⟩:=hs _ _ _ _ _ _ _ hR.toav hR.jD (ai hR x).1;exact fv (y:=y') (w':=w') (by simp[execOp,r1]) (hK _ _ _ _ _ _ _ hk r2 r3 r4 fun id hid=>by have:=BY hid;subst this;exact hl)
 case next x s=>
  simp only at h;split at h
  ·cases h
  ·rename_i hd;simp only[aiI,alD,ajz]at hd;obtain⟨hd,rfl⟩:=hd;refine⟨hd,And.intro (fun c x y h=>by cases h) fun rd w0 μ φ a w K Q _ hR hK=>AR (fun c h=>by cases h) ?_⟩;obtain⟨v,m',y',w',hk,hv,hl,r1,r2,r3⟩:=Us h _ _ _ _ _ _ type hR.toav (ai hR x).1;exact fv (y:=y') (w':=w') (by simp[execOp,r1]) (hK _ _ _ _ _ _ _ hk r2 (hR.jD.lS (fun _ _ h=>h) hl) r3 fun id hid=>by rw[hv id]at hid;cases hid)
 case entry x=>
  simp only at h;split at h
  ·cases h
  ·rename_i hd;refine⟨by simpa using hd,And.intro (fun c x y h=>by cases h) fun rd w0 μ φ a w K Q _ hR hK=>AR (fun c h=>by cases h) ?_⟩;obtain⟨v,m',y',hk,hv,hl,r1,r3,r2⟩:=R8 h _ _ _ _ _ _ _ hR.toav (ai hR x).1;exact fv (y:=y') (w':=w) (by simp[execOp,r1]) (hK _ _ _ _ _ _ _ hk r3 (hR.jD.lS (fun _ _ h=>h) hl) r2 fun id hid=>by rw[hv id]at hid;cases hid)
theorem Xy(hE:je E)(h:cz E draw site o f m k=some r):(∃v f' m' ft,k v f' m' ft=some r∧tH E draw site o f m v f' m' ft)∨(draw=false∧DN E o f m k r):=by
 by_cases hc:∃c,o.op=.call c
 ·obtain⟨dst,op,type,pos,after,guard⟩:=o;obtain⟨⟨callee,args,argTypes⟩,hc⟩:=hc;simp only at hc;subst hc;exact UH hE h
 ·by_cases hb:∃op t x y ty s es,o.op=.binOp op t x y ty∧bA E f x=.pv (.rs s es)∧bA E f y=.gy
  ·obtain⟨op,t,x,y,ty,s,es,h1,h2,h3⟩:=hb;obtain⟨dst,op',type,pos,after,guard⟩:=o;simp only at h1;subst h1;exact .inr (Xx h h2 h3)
  ·cases hi:ME o.op with
   |true=>exact .inr (UJ h hi)
   |false=>exact .inl (Xw hE h (fun c hcc=>hc ⟨c,hcc⟩) (fun op t x y ty s es h1 h2 h3=>hb ⟨op,t,x,y,ty,s,es,h1,h2,h3⟩) hi)
theorem Rel.yp{nt:Nat}{P:Program}{G:Nat→Option (List PV)}{w0:bw}{μ:Ro}{φ:Nat→aA}{f:Fr}{m:Mem}{a:Act}{w:World}(h:Rel P G nt w0 μ φ f m a w){K:Ro}(hK:∀b o,K b=some o→μ b=some o)(hK0:∀b o,w0.dy b=some o→K b=some o):Rel P G nt {w0 with dy:=K} μ φ f m a w:={toav:=h.toav.yp hK,size:=h.size,defers:=h.defers,lD:=fun b o hb=>hK0 b o (h.lD b o hb),fr:=h.fr,live:=h.live}
theorem Rel.Dz{nt:Nat}{P:Program}{G:Nat→Option (List PV)}{w0:bw}{μ:Ro}{φ:Nat→aA}{f:Fr}{m:Mem}{a:Act}{w:World}{K:Ro}(h:Rel P G nt {w0 with dy:=K} μ φ f m a w)(hK:∀b o,w0.dy b=some o→K b=some o)(ho:∀b o,w0.lD b=some o→w0.dy b=some o):Rel P G nt w0 μ φ f m a w:={toav:=h.toav.Dz hK,size:=h.size,defers:=h.defers,lD:=ho,fr:=h.fr,live:=h.live}
abbrev J0(μ μ':Ro):Prop:=∀b o,μ b=some o→μ' b=some o
theorem M9(h:cz E draw site o f m k=some r):∀c,o.op≠.defer c:=by intro c hc;obtain⟨dst,op,type,pos,after,guard⟩:=o;simp only at hc;subst hc;simp[cz]at h
theorem tH.yr{f':Fr}{ft:bq}(h:tH E draw site o f m v f' m' ft)(hd:∀c,o.op≠.defer c)(rd:Option Nat)(w0:bw)(μ:Ro)(φ:Nat→aA)(a:Act)(w:World)(K:Act→World→Prop)(Q:Exit→Act→World→Prop)(hR:Rel E.P E.aF E.fn.ntmps w0 μ φ f m a w)(hK:∀y w' μ' φ',J0 μ μ'→av E.P E.aF w0 μ' φ' m' w'→bU E.P μ' φ' m' f' (an E.fn.ntmps w0 a)→ag E.P μ' φ' v y→(∀id,v.has id=true→(m' id).isSome=true)→K (a.put o.dst y) w'):o.wpIn (FR rd) 0 E.P a w K Q:=AR hd (h.sound {w0 with dy:=μ} μ φ a w K Q (hR.yp (fun _ _ h=>h) hR.dy) fun y w' μ' φ' h1 h2 h3 h4=>hK y w' μ' φ' h1.dy (h1.Dz hR.dy) h2 h3 h4)
theorem DN.yr(h:DN E o f m k r)(rd:Option Nat)(w0:bw)(μ:Ro)(φ:Nat→aA)(a:Act)(w:World)(K:Act→World→Prop)(Q:Exit→Act→World→Prop)(hY:sG E.P E.aF E.fn.ntmps E.yl w0)(hR:Rel E.P E.aF E.fn.ntmps w0 μ φ f m a w)(hK:∀v f' m' y w' μ' φ',k v f' m' [(true,0)]=some r→J0 μ μ'→av E.P E.aF w0 μ' φ' m' w'→bU E.P μ' φ' m' f' (an E.fn.ntmps w0 a)→ag E.P μ' φ' v y→(∀id,v.has id=true→(m' id).isSome=true)→K (a.put o.dst y) w'):o.wpIn (FR rd) 0 E.P a w K Q:=h.2 rd {w0 with dy:=μ} μ φ a w K Q (hY.yp hR.dy) (hR.yp (fun _ _ h=>h) hR.dy) fun v f' m' y w' μ' φ' h0 h1 h2 h3 h4=>hK v f' m' y w' μ' φ' h0 h1.dy (h1.Dz hR.dy) h2 h3 h4
end
section
variable {R:Type} {E:Env}
variable{site:Nat}{o:Oper}{k:V→Fr→Mem→bq→Option R}
theorem Na{f:Fr}{m:Mem}{sp:Sp}{r:R}(hs:xY E site o f m=some sp)(h:YT E site sp f m k=some r):∃v wr,k v (kf (sp.info site).1 f) (sw wr (km (sp.info site).1 m)) (sp.info site).2=some r∧(∀x∈wr,(true,x.1)∈(sp.info site).2)∧(∀x∈(sp.info site).1,(true,x.2)∈(sp.info site).2)∧(∀(f2:Fr)(m2:Mem)(R':Type)(k':V→Fr→Mem→bq→Option R'),YT E site sp f2 m2 k'=k' v (kf (sp.info site).1 f2) (sw wr (km (sp.info site).1 m2)) (sp.info site).2)∧(∀c,o.op≠.defer c)∧tH E false site o f m v (kf (sp.info site).1 f) (sw wr (km (sp.info site).1 m)) (sp.info site).2:=by
 obtain⟨dst,op,type,pos,after,guard⟩:=o;unfold xY at hs;cases op;case store t a x=>
  simp only at hs;split at hs
  ·rename_i id i off ha;split at hs
   ·rename_i s et es hm;split at hs
    ·rename_i cs hc;split at hs
     ·rename_i ps j id2 ht;split at hs
      ·rename_i jN;simp only[cN]at hs;subst hs;simp only[No,IL,aiT]at jN;obtain⟨⟨hb,h0⟩,dh⟩:=jN;have dh:id2≠id:=fun e=>by subst e;simp[ale]at dh
       unfold YT at h;obtain⟨e,he,h⟩:=cQ.1 h;refine⟨_,_,h,by simp[Sp.info],by simp[Sp.info],fun f2 m2 R' k'=>by simp only[YT,he,aiH];rfl,by simp,⟨fun h=>(nomatch h),fun _ h=>absurd (h (true,id) (by simp[Sp.info])) (by simp),fun w0 μ φ ac w K Q hR hK=>?_⟩⟩;obtain⟨w',φ',u1,u2,u3⟩:=Uw hm hc ht hb h0 dh he hR.toav hR.jD (by have:=(ai hR a).1;rw[ha]at this;exact this) (ai hR x).1;exact vE (by simp[execOp,u1]) (hK undef w' μ φ' u2 u3 .top (by simp))
      ·cases hs
     ·cases hs
    ·cases hs
   ·cases hs
  ·cases hs
 case buildSlice t len parts=>
  simp only at hs;split at hs
  ·rename_i e v hu hp;split at hs
   ·rename_i cs hc;split at hs
    ·rename_i ps j id2 ht acD;split at hs
     ·rename_i p Fl;split at hs
      ·rename_i jN;simp only[cN]at hs;subst hs;simp only[No,IL]at jN;obtain⟨⟨⟨hlen,eB⟩,hsm⟩,hz⟩:=jN;have hlen:=BY hlen;subst hlen;refine⟨_,_,h,by simp[Sp.info],by simp[Sp.info],fun f2 m2 R' k'=>rfl,by simp,⟨fun h=>(nomatch h),fun h _=>by(simp[eW]at h),fun w0 μ φ ac w K Q hR hK=>?_⟩⟩;obtain⟨x,hx,hxv⟩:∃x,parts= #[(0,x)]∧bA E f x=v:=by
        obtain⟨l⟩:=parts;match l,hp with
        |[(a,x)],hp=>simp only[aiL,akk,ajl,IT,and_true]at hp;exact⟨x,by rw[hp.1],hp.2⟩
       subst hx;obtain⟨y,w',φ',u1,u2,u3,u4⟩:=Sc hu hc ht acD Fl eB hsm hz hR.toav hR.jD (by have:=(ai hR x).1;rw[hxv]at this;exact this);exact fv (y:=y) (w':=w') (by
        have:(#[((0:Nat),x)].map fun(x:Nat×Operand)=>(x.1,ac.eval x.2))= #[(0,ac.eval x)]:=by simp
        simp only[execOp,Sem.run_bind,this,u1,Result.andThen_ok,Sem.run_pure]) (hK y w' μ φ' u2 u3 u4 fun j hj=>by have hj:=BY hj;subst hj;simp[sw])
      ·cases hs
     ·cases hs
    ·cases hs
   ·cases hs
  ·cases hs
 case call c=>
  obtain⟨callee,args,argTypes⟩:=c;simp only at hs;split at hs
  ·rename_i id x t t' ha hty;split at hs
   ·rename_i e s et es hu hm;split at hs
    ·rename_i jN;simp only[No,IL]at jN;obtain⟨⟨⟨⟨⟨h1,h2⟩,h3⟩,h4⟩,h5⟩,h6⟩:=jN;subst h3;have h1:et=e:=by simpa using h1
     subst h1;have qd:∃y z,args= #[y,z]∧bA E f y=.os id∧bA E f z=x:=by
      obtain⟨l⟩:=args;rcases l with _|⟨y,_|⟨z,_|⟨u,l⟩⟩⟩
      ·simp at ha
      ·simp at ha
      ·simp only[aiL,akk,ajl,and_true]at ha;exact⟨y,z,rfl,ha.1,ha.2⟩
      ·simp at ha
     obtain⟨y,z,rfl,hy,hz⟩:=qd;have Xz:argTypes= #[t',t']:=ajZ (by simpa using hty);subst Xz;have main:∀(new:List PV)(src:Option Nat)(rd:bq),sp=.app id s et es new src rd→((∃id2,src=some id2∧id2≠id∧x=.os id2∧m id2=some (.nest s et new))∨(src=none∧ey m s x=some (new,rd)))→∃v wr,k v (kf (sp.info site).1 f) (sw wr (km (sp.info site).1 m)) (sp.info site).2=some r∧(∀x∈wr,(true,x.1)∈(sp.info site).2)∧(∀x∈(sp.info site).1,(true,x.2)∈(sp.info site).2)∧(∀(f2:Fr)(m2:Mem)(R':Type)(k':V→Fr→Mem→bq→Option R'),YT E site sp f2 m2 k'=k' v (kf (sp.info site).1 f2) (sw wr (km (sp.info site).1 m2)) (sp.info site).2)∧(∀c,(⟨dst,.call ⟨.builtin .append,#[y,z],#[t',t']⟩,type,pos,after,guard⟩:Oper).op≠.defer c)∧tH E false site ⟨dst,.call ⟨.builtin .append,#[y,z],#[t',t']⟩,type,pos,after,guard⟩ f m v (kf (sp.info site).1 f) (sw wr (km (sp.info site).1 m)) (sp.info site).2:=by
      intro new src rd sx yo;subst sx;simp only[YT]at h;split at h
      ·rename_i gn;have hw:(true,id)∈(Sp.info site (.app id s et es new src rd)).2:=by cases src<;>simp[Sp.info]
       have hkm:sw [(id,.nest s et (es++new))] (km (Sp.info site (.app id s et es new src rd)).1 m)=al (bj (bB id (QG src m)) id) id (.nest s et (es++new)):=by cases src<;>rfl
       have hkf:kf (Sp.info site (.app id s et es new src rd)).1 f=eM id (kfS src f):=by cases src<;>rfl
       refine⟨_,_,h,fun q hq=>(by simp only[akO]at hq;subst hq;exact hw),fun q hq=>?_,fun f2 m2 R' k'=>by simp only[YT];rw[AI gn],by simp,⟨fun h=>(nomatch h),fun _ h=>absurd (h (true,id) hw) (by simp),fun w0 μ φ ac w K Q hR hK=>?_⟩⟩
       ·cases src<;>simp only[Sp.info,abX,ajQ,alj]at hq⊢
        ·subst hq;simp
        ·rcases hq with rfl|rfl<;>simp
       ·obtain⟨w',y',φ',u1,u2,u3,u4⟩:=Sg (ty:=type) hu hm h2 h4 h5 h6 gn yo hR.toav hR.jD (by have:=(ai hR y).1;rw[hy]at this;exact this) (by have:=(ai hR z).1;rw[hz]at this;exact this);exact fv (y:=y') (w':=w') (by simp[execOp,resolve,invoke,builtin,u1]) (hK y' w' μ φ' (by rw[hkm];exact u2) (by rw[hkm,hkf];exact u3) u4 fun j hj=>by have hj:=BY hj;subst hj;simp[sw])
      ·cases h
     split at hs
     ·rename_i qW;split at hs
      ·rename_i s' E2 new hm';split at hs
       ·rename_i T8;simp only[No,IL]at T8;obtain⟨⟨c1,c2⟩,c3⟩:=T8;have c1:=BY c1;subst c1;subst c2;simp only[cN]at hs;exact main new (some qW) [] hs.symm (.inl ⟨qW,rfl,fun e=>by subst e;simp[ale]at c3,rfl,hm'⟩)
       ·cases hs
      ·split at hs
       ·rename_i new rd CK;split at hs
        ·cases hs
        ·simp only[cN]at hs;exact main new none rd hs.symm (.inr ⟨rfl,CK⟩)
       ·cases hs
     ·split at hs
      ·rename_i new rd CK;split at hs
       ·cases hs
       ·simp only[cN]at hs;exact main new none rd hs.symm (.inr ⟨rfl,CK⟩)
      ·cases hs
    ·cases hs
   ·cases hs
  ·cases hs
 case mapUpdate t x key v=>
  simp only at hs;split at hs
  ·rename_i kt et id id2 hu hx hv;split at hs
   ·rename_i uR e es s e' rs kp h1 h2 hk;split at hs
    ·rename_i jN;simp only[cN]at hs;subst hs;simp only[No,IL]at jN;obtain⟨⟨hkt,hee⟩,_⟩:=jN;subst hkt;subst hee;refine⟨_,_,h,by simp[Sp.info],by simp[Sp.info],fun f2 m2 R' k'=>rfl,by simp,⟨fun h=>(nomatch h),fun h _=>by(simp[eW]at h),fun w0 μ φ ac w K Q hR hK=>?_⟩⟩;obtain⟨w',φ',u1,u2,u3⟩:=Sf hu h1 h2 hk hR.toav hR.jD (by have:=(ai hR x).1;rw[hx]at this;exact this) (ai hR key).1 (by have:=(ai hR v).1;rw[hv]at this;exact this);exact vE (by simp[execOp,u1]) (hK undef w' μ φ' u2 u3 .top (by simp))
    ·cases hs
   ·cases hs
  ·cases hs
 all_goals (cases hs)
theorem Hj(hE:je E){draw:Bool}{f:Fr}{m:Mem}{r:R}(h:JB E draw site o f m k=some r):(∃v f' m' ft,k v f' m' ft=some r∧tH E draw site o f m v f' m' ft)∨(draw=false∧DN E o f m k r):=by
 unfold JB at h;split at h
 ·rename_i sp sx;cases draw with
  |true=>cases sx
  |false=>
   simp only[cond]at sx;cases hn:E.Ay site with
   |false=>rw[hn]at sx;cases sx
   |true=>rw[hn]at sx;obtain⟨v,wr,h1,_,_,_,_,h2⟩:=Na sx h;exact .inl ⟨_,_,_,_,h1,h2⟩
 ·exact Xy hE h
theorem AU{draw:Bool}{f:Fr}{m:Mem}{r:R}(h:JB E draw site o f m k=some r):∀c,o.op≠.defer c:=by
 unfold JB at h;split at h
 ·rename_i sp sx;cases draw with
  |true=>cases sx
  |false=>
   simp only[cond]at sx;cases hn:E.Ay site with
   |false=>rw[hn]at sx;cases sx
   |true=>rw[hn]at sx;obtain⟨v,wr,h1,_,_,_,h3,h2⟩:=Na sx h;exact h3
 ·exact M9 h
end
end Go.Ab
