import Derived.Test.YtanikidijjaohaaGreatAbP5
import Derived.Lib.SliceRun
import Derived.Laws.IdiomStrings
set_option linter.unusedVariables false
set_option linter.unusedSimpArgs false
namespace Go.Ab
open Go.RowKit (Below)
section
variable {R:Type} {E:Env}
variable{t:TypeId}
theorem H7{P:Program}{w:World}{ms:Array (String×TypeId)}(hu:P.underlying t=some (.interface ms)){b:Bool}{x:Value}{μ:Ro}(hx:ai P μ (.Y8 b) x):(Op.equalIn 10000 t x .nilIface).run P w=.ok (!b) w:=by show(Op.equalIn (9999+1) t x .nilIface).run P w=.ok (!b) w;cases hx<;>(unfold Op.equalIn;simp only[Sem.run_bind,run_underlying hu,Result.andThen_ok];rfl)
theorem Dr{P:Program}{w:World}{op:BinOp}{ox:Operand}{c:Value}{b:Bool}{x:Value}{μ:Ro}(hx:ai P μ (.Y8 b) x):(eqGuard op t ox (.const c) x .nilIface).run P w=.ok () w:=by
 cases hx
 ·rw[eqGuard_nil_constR];rfl
 ·rename_i d z;have:eqGuard op t ox (.const c) (.iface d z) .nilIface=pure ():=by cases op<;>rfl
  rw[this];rfl
theorem WJ{op:BinOp}{oy:Operand}{a b:V}{k:PV→Option R}{r:R}(h:K4 E op t oy a b k=some r):∃q,(∀(R':Type)(k':PV→Option R'),K4 E op t oy a b k'=k' q)∧k q=some r∧∀(μ:Ro)(φ:Nat→aH)(w:World)(ox:Operand)(x y:Value),(EE oy=true→y=.nilIface)→ah E.P μ φ a x→ah E.P μ φ b y→∃z,(tF op t ox oy x y).run E.P w=.ok z w∧ai E.P μ q z:=by
 unfold K4 at h⊢;cases hn:EE oy with
 |false=>rw[hn]at h;obtain⟨q,q1,q2,q3⟩:=ZG h;exact⟨q,fun R' k'=>q1 R' k',q2,fun μ φ w ox x y _ hx hy=>q3 μ φ w ox oy x y hx hy⟩
 |true=>
  rw[hn]at h;simp only[cond]at h⊢;have hoy:oy=.const .nilIface:=by unfold EE at hn;grind
  subst hoy;unfold V0 at h⊢;split at h
  ·rename_i c;split at h
   ·rename_i ms hu;refine⟨_,fun R' k'=>by rfl,h,fun μ φ w ox x y hy hx _=>?_⟩;have:=hy trivial;subst this;cases hx with
    |pv hx=>exact⟨_,ck (Dr hx) (js (by cases hx<;>rfl) (H7 hu hx)),.bool⟩
   ·rename_i ms hu;refine⟨_,fun R' k'=>by rfl,h,fun μ φ w ox x y hy hx _=>?_⟩;have:=hy trivial;subst this;cases hx with
    |pv hx=>refine⟨_,ck (Dr hx) (jt (by cases hx<;>rfl) (H7 hu hx)),?_⟩;rw[Bool.not_not];exact .bool
   ·cases h
  ·cases h
theorem H8{P:Program}{μ:Ro}:∀{es:List PV}{b:Bytes}{xs:List Value},BX es=some b→Cells P μ 1 es xs→b.length=es.length∧xs=b.map fun c=>.int .u8 (c.toNat:Int)
 |[],b,xs,h,hC=>by simp only[BX,AT]at h;subst h;have:=hC.len;simp_all
 |e::es,b,xs,h,hC=>by
  unfold BX at h;split at h
  ·rename_i he;cases he
  ·rename_i n r he;simp only[aku]at he;obtain⟨rfl,rfl⟩:=he;obtain⟨b',iv,rfl⟩:=ah2.1 h;cases xs with
   |nil=>have:=hC.len;simp at this
   |cons x xs=>
    have hx:x=.int .u8 n∧(Lit.int .u8 n).wf=true:=by
     have:=hC.rep 0 _ 0 _ x rfl rfl rfl;cases this with
     |int hw=>exact⟨rfl,hw⟩
    obtain⟨rfl,hw⟩:=hx;have hC':Cells P μ 1 es xs:=⟨by have:=hC.len;simp at this⊢;omega,fun i e hi=>hC.each (i+1) e (by simpa using hi),fun i e j p y hi hj hy=>hC.rep (i+1) e j p y (by simpa using hi) hj (by grind),fun i y hy=>hC.one (i+1) y (by simpa using hy)⟩;obtain⟨h1,h2⟩:=H8 iv hC';refine⟨by simp[h1],?_⟩;rw[ajy,←h2];rw[nf]at hw;grind [IntKind.min,IntKind.max,IntKind.signed,IntKind.bits,UInt8.ofNat,UInt8.toNat_ofNat']
  ·cases h
theorem Uo{s d:TypeId}{a:V}{m:Mem}{k:PV→bG→Option R}{r:R}(h:BZ E s d a m k=some r):∃q ft,(∀m2:Mem,(∀x∈ft,m2 x.2=m x.2)→∀(R':Type)(k':PV→bG→Option R'),BZ E s d a m2 k'=k' q ft)∧k q ft=some r∧(∀x∈ft,x.1=false)∧∀(G:Nat→Option (List PV))(w0:bI)(μ:Ro)(φ:Nat→aH)(w:World)(x:Value),az E.P G w0 μ φ m w→ah E.P μ φ a x→∃z,(convert s d x).run E.P w=.ok z w∧ai E.P μ q z:=by
 unfold BZ at h;split at h
 ·rename_i e hs hd;split at h
  ·rename_i es ft hu Ek;obtain⟨b,hb,hk⟩:=BY.1 h;obtain⟨e1,e2,e3⟩:=oH Ek;refine⟨.str b,ft,fun m2 c9 R' k'=>by simp_all[BZ,ajH],hk,e2,fun G w0 μ φ w x hM hx=>?_⟩;have zR:=e3 _ _ _ _ _ _ _ hM hx;cases zR with
   |none he=>subst he;simp only[BX,AT]at hb;subst hb;exact⟨_,by simp[convert,run_underlying hs,run_underlying hd,run_underlying hu,Conv.bytesToString];rfl,.str (by decide)⟩
   | @some a c xs hC hc hl hm=>obtain⟨h1,h2⟩:=H8 hb hC;subst h2;rw[←h1];refine⟨_,run_convert_bytes_back w s d e a c b hs hu hd fun j hj=>hc j _ (by grind),.str (by omega)⟩
  ·cases h
 ·rename_i Dt;obtain⟨q,q1,q2,q3⟩:=Wj h;refine⟨q,[],fun m2 _ R' k'=>?_,q2,by simp,fun G w0 μ φ w x _ hx=>q3 μ φ w x hx⟩;simp_all[BZ,absurd]
end
structure vB(E:Env)(draw:Bool)(site:Nat)(o:Oper)(f:Fr)(m:Mem)(v:V)(f':Fr)(m':Mem)(ft:bG):Prop where
 drawn:draw=true→f'=f∧∃wr:List (Nat×bR),m'=uf wr m∧(∀x∈wr,(true,x.1)∈ft)∧∀(f2:Fr)(m2:Mem),(∀x∈o.op.operands,bL E f2 x=bL E f x)→(∀x∈ft,m2 x.2=m x.2)→∀(R':Type)(k':V→Fr→Mem→bG→Option R'),cT E true site o f2 m2 k'=k' v f2 (uf wr m2) ft
 same:fx o=true→(∀x∈ft,x.1=false)→f'=f∧m'=m
 sound:∀(w0:bI)(μ:Ro)(φ:Nat→aH)(a:Act)(w:World)(K:Act→World→Prop)(Q:Exit→Act→World→Prop),Rel E.P E.aM E.fn.ntmps w0 μ φ f m a w→(∀y w' μ' φ',az E.P E.aM w0 μ' φ' m' w'→cu E.P μ' φ' m' f' (ax E.fn.ntmps w0 a)→ah E.P μ' φ' v y→(∀id,v.has id=true→(m' id).isSome=true)→K (a.put o.dst y) w')→o.wp E.P a w K Q
def FR(rd:Option Nat):Fence:={Fence.wide with round:=rd}
variable{rd:Option Nat}{P:Program}
theorem FR.ZU{m m':Machine}:StepsIn (Machine.fenced P (FR rd)) P m m'↔Steps P m m':=stepsIn_wide (P:=P)
variable{args:Array Value}{w:World}{R:Ending→World→Prop}
theorem FR.SE{n:Nat}{f:FuncId}(h:Calls P f args w R):CallsIn (FR rd) n P f args w R:=(callsIn_wide (n:=n)).2 h
theorem FR.ab0{n:Nat}{row:String}{R:Value→World→Prop}(h:Rows P row args w R):RowsIn (FR rd) n P row args w R:=fun c cs _=>let⟨v,w',r,s⟩:=h c cs;⟨v,w',r,FR.ZU.2 s⟩
theorem FR.ZV{n n':Nat}{l:Nat}{f:FuncId}{tmps:Array Value}{assign body:Code}(h:RoundIn Fence.wide n P l f tmps assign body w R):RoundIn (FR rd) n' P l f tmps assign body w R:=⟨trivial,fun c cs _=>h.2 c cs (room_wide _)⟩
theorem Ce{o:Oper}{a:Act}{K:Act→World→Prop}{Q:Exit→Act→World→Prop}(hd:∀c,o.op≠.defer c)(h:o.wp P a w K Q):o.wpIn (FR rd) 0 P a w K Q:=by
 refine⟨fun _ _=>trivial,?_⟩;rw[Oper.semAt_eq _ _ _ hd];unfold Oper.wp at h;cases hr:(execOp a.eval o).run P w with
 |ok nx w'=>
  rw[hr]at h;cases nx with
  |value v=>exact h
  |skip=>exact h
  |defer d=>exact h
  |enter f args=>exact⟨fun h=>(by cases h),FR.SE h⟩
  |row row args=>exact⟨fun h=>(by cases h),FR.ab0 h⟩
  |_=>exact h.elim
 |halt h' w'=>
  rw[hr]at h;cases h' with
  |panic v=>exact h
  |_=>exact h.elim
def Ft{R:Type}(E:Env)(o:Oper)(f:Fr)(m:Mem)(k:V→Fr→Mem→bG→Option R)(r:R):Prop:=
 (∀c x y,o.op≠.pick c x y)∧
 ∀(rd:Option Nat)(w0:bI)(μ:Ro)(φ:Nat→aH)(a:Act)(w:World)(K:Act→World→Prop)(Q:Exit→Act→World→Prop),ur E.P E.aM E.fn.ntmps E.yl w0→Rel E.P E.aM E.fn.ntmps w0 μ φ f m a w→(∀v f' m' y w' μ' φ',k v f' m' [(true,0)]=some r→az E.P E.aM w0 μ' φ' m' w'→cu E.P μ' φ' m' f' (ax E.fn.ntmps w0 a)→ah E.P μ' φ' v y→(∀id,v.has id=true→(m' id).isSome=true)→K (a.put o.dst y) w')→o.wpIn (FR rd) 0 E.P a w K Q
section
variable {R:Type} {E:Env}
variable{w0:bI}{μ:Ro}{φ:Nat→aH}{f:Fr}{m:Mem}{a:Act}{w:World}
theorem Rel.kZ(h:Rel E.P E.aM E.fn.ntmps w0 μ φ f m a w):cu E.P μ φ m f (ax E.fn.ntmps w0 a):=⟨h.fr,h.live⟩
variable{P:Program}{o:Oper}{K:Act→World→Prop}{Q:Exit→Act→World→Prop}
theorem fZ{w':World}{y:Value}(hr:(execOp a.eval o).run P w=.ok (.value y) w')(h:K (a.put o.dst y) w'):o.wp P a w K Q:=by unfold Oper.wp;rw[hr];exact h
theorem xg{w':World}(hr:(execOp a.eval o).run P w=.ok .skip w')(h:K (a.put o.dst undef) w'):o.wp P a w K Q:=by unfold Oper.wp;rw[hr];exact h
variable{draw:Bool}{site:Nat}{v:V}
theorem vB.read{ft:bG}(nat:∀(f2:Fr)(m2:Mem),(∀x∈o.op.operands,bL E f2 x=bL E f x)→(∀x∈ft,m2 x.2=m x.2)→∀(R':Type)(k':V→Fr→Mem→bG→Option R'),cT E true site o f2 m2 k'=k' v f2 m2 ft)(hs:∀(w0:bI)(μ:Ro)(φ:Nat→aH)(a:Act)(w:World),Rel E.P E.aM E.fn.ntmps w0 μ φ f m a w→∃y,(execOp a.eval o).run E.P w=.ok (.value y) w∧ah E.P μ φ v y∧∀id,v.has id=true→(m id).isSome=true):vB E draw site o f m v f m ft:=by refine⟨fun _=>⟨rfl,[],rfl,by simp,nat⟩,fun _ _=>⟨rfl,rfl⟩,fun w0 μ φ a w K Q hR hK=>?_⟩;obtain⟨y,hr,hy,hl⟩:=hs w0 μ φ a w hR;exact fZ hr (hK y w μ φ hR.toaz hR.kZ hy hl)
variable{m':Mem}
theorem vB.make{f':Fr}{b:bR}(hd:draw=true→m site=none∧f'=f∧m'=aq m site b)(nat:draw=true→∀(f2:Fr)(m2:Mem),(∀x∈o.op.operands,bL E f2 x=bL E f x)→m2 site=none→∀(R':Type)(k':V→Fr→Mem→bG→Option R'),cT E true site o f2 m2 k'=k' v f2 (aq m2 site b) [(true,site)])(hs:∀(w0:bI)(μ:Ro)(φ:Nat→aH)(a:Act)(w:World),Rel E.P E.aM E.fn.ntmps w0 μ φ f m a w→∃y w' μ' φ',(execOp a.eval o).run E.P w=.ok (.value y) w'∧az E.P E.aM w0 μ' φ' m' w'∧cu E.P μ' φ' m' f' (ax E.fn.ntmps w0 a)∧ah E.P μ' φ' v y∧∀id,v.has id=true→(m' id).isSome=true):vB E draw site o f m v f' m' [(true,site)]:=by
 refine⟨fun h=>?_,fun _ h=>by simp_all,fun w0 μ φ a w K Q hR hK=>?_⟩
 ·obtain⟨h1,h2,h3⟩:=hd h;exact⟨h2,[(site,b)],h3,by simp,fun f2 m2 hf hm R' k'=>nat h f2 m2 hf (by simp_all) R' k'⟩
 grind [fZ]
variable{args:Array Operand}
theorem lP(h:Rel E.P E.aM E.fn.ntmps w0 μ φ f m a w):(args.toList.map (bL E f)).length=(args.map a.eval).size∧∀(i:Nat)v x,(args.toList.map (bL E f))[i]?=some v→(args.map a.eval)[i]?=some x→ah E.P μ φ v x:=by refine⟨by simp,fun i v x hv hx=>?_⟩;simp only[IT,ah2]at hv;obtain⟨o,ho,rfl⟩:=hv;grind [Option.some.injEq,an]
theorem rq(h:Rel E.P E.aM E.fn.ntmps w0 μ φ f m a w){args:List Operand}{id:Nat}(av:cD id (args.map (bL E f))=true):(m id).isSome=true:=by obtain⟨v,hv,hh⟩:=cW.1 av;obtain⟨o,_,rfl⟩:=ajJ.1 hv;exact(an h o).2 id hh
theorem pn{f2:Fr}{l:List Operand}(h:∀x∈l,bL E f2 x=bL E f x):l.map (bL E f2)=l.map (bL E f):=aj9 h
theorem tn{f2:Fr}{l:List (Nat×Operand)}(h:∀x∈l,bL E f2 x.2=bL E f x.2):(l.map fun(x:Nat×Operand)=>(x.1,bL E f2 x.2))=l.map fun(x:Nat×Operand)=>(x.1,bL E f x.2):=aj9 fun x hx=>by rw[h x hx]
variable{g:FuncId}
theorem yO{fn:Func}{c:Code}(hf:P.funcs[g]?=some fn)(aa8:(fn.name== "runtime.NumGoroutine")=false)(hb:fn.body=some c){args:Array Value}:(callFunc g args).run P w=.ok (.enter g args) w:=by simp_all[callFunc]
theorem rY{b:Bool}{x:Value}(h:ah P μ φ (.pv (.bool b)) x):x=.bool b:=by cases h with|pv h=>cases h;rfl
theorem WK{p:PV}(h:ED dh v=some (p,m'))(m:Mem):ED m v=some (p,m):=by unfold ED at h⊢;grind [Option.some.injEq,Prod.mk.injEq,dh]
theorem Cf:∀{cs:List V}{ps:List PV}{m':Mem},mQ dh cs=some (ps,m')→∀m:Mem,mQ m cs=some (ps,m)
 |[],ps,m',h,m=>by simp only[mQ,AT,ado]at h;rw[←h.1];rfl
 |c::r,ps,m',h,m=>by
  simp only[mQ]at h;split at h
  ·rename_i p m1 h1;have e1:=rS h1;subst e1;split at h
   ·rename_i ps1 m2 h2;simp only[AT,ado]at h;simp only[mQ,WK h1 m,Cf h2 m,h.1]
   ·cases h
  ·cases h
theorem Du:∀{cs:List V}{ps:List PV}{m':Mem},mQ dh cs=some (ps,m')→m'=dh
 |[],ps,m',h=>by simp_all[mQ,AT,ado]
 |c::r,ps,m',h=>by
  simp only[mQ]at h;split at h
  ·rename_i p m1 h1;have e1:=rS h1;subst e1;split at h
   ·rename_i ps1 m2 h2;simp only[AT,ado]at h;rw[←h.2];exact Du h2
   ·cases h
  ·cases h
theorem Lx{n:Nat}{agg:Bool}{p:PV}(h:kT dh n agg v=some (p,m')):m'=dh∧∀m:Mem,kT m n agg v=some (p,m):=by
 unfold kT at h;split at h
 ·rename_i cs hc;split at h
  ·rename_i ps m1 h1;have e1:=Du h1;subst e1;cases agg with
   |true=>simp only[aaV,AT,ado]at h;refine⟨h.2.symm,fun m=>?_⟩;unfold kT;simp only[hc,Cf h1 m,aaV,h.1]
   |false=>
    simp only[By,abG]at h;split at h
    ·simp only[AT,ado]at h;refine⟨h.2.symm,fun m=>?_⟩;unfold kT;simp only[hc,Cf h1 m,By,abG,h.1]
    ·cases h
  ·cases h
 ·cases h
theorem rZ{n:Nat}{agg:Bool}:∀{parts:List (Nat×V)}{i:Nat}{ps:List PV}{m':Mem},fp dh n agg i parts=some (ps,m')→m'=dh∧∀m:Mem,fp m n agg i parts=some (ps,m)
 |[],i,ps,m',h=>by simp_all[fp,AT,ado]
 |(j,v)::r,i,ps,m',h=>by
  simp only[fp]at h;split at h
  ·rename_i OE;split at h
   ·rename_i p m1 h1;obtain⟨e1,e2⟩:=Lx h1;subst e1;split at h
    ·rename_i ps1 m2 h2;obtain⟨e3,e4⟩:=rZ h2;simp_all[AT,ado,fp,BK]
    ·cases h
   ·cases h
  ·cases h
def A4(g:FuncId)(xs ys:Array Value):Array Value:=bif Nat.blt g EC then ys++xs else xs++ys
theorem SF{caps args:List V}{xs ys:Array Value}(e1:args.length=ys.size)(h1:∀(i:Nat)v x,args[i]?=some v→ys[i]?=some x→ah P μ φ v x)(e2:caps.length=xs.size)(h2:∀(i:Nat)v x,caps[i]?=some v→xs[i]?=some x→ah P μ φ v x):(zK g caps args).length=(A4 g xs ys).size∧∀(i:Nat)v x,(zK g caps args)[i]?=some v→(A4 g xs ys)[i]?=some x→ah P μ φ v x:=by unfold zK A4;grind
theorem WL{caps args:List V}(h:v∈zK g caps args):v∈args∨v∈caps:=by unfold zK at h;grind
theorem WM(g:FuncId)(xs:Array Value):AW (g+EC) xs=.func (.func g) xs #[]:=by simp[AW,IN,Nat.le_add_left,ak3]
theorem vC{site:Nat}:∀{ts:List TypeId}{j:Nat}{F:Fr}{m:Mem}{k:Fr→Mem→Option R}{r:R},yA E site ts j F m k=some r→∃F' m',k F' m'=some r∧∀(G:Nat→Option (List PV))(w0:bI)(μ:Ro)(φ:Nat→aH)(w:World)(ρ:Nat→Value),az E.P G w0 μ φ m w→cu E.P μ φ m F ρ→∃φ',az E.P G w0 μ φ' m' w∧cu E.P μ φ' m' F' ρ
 |[],j,F,m,k,r,h=>⟨F,m,h,fun G w0 μ φ w ρ hM hF=>⟨φ,hM,hF⟩⟩
 |t::ts,j,F,m,k,r,h=>by
  simp only[yA]at h;split at h
  ·rename_i hj;split at h
   ·rename_i e hu;split at h
    ·rename_i eF;obtain⟨f1,m1,hn,hk,wP,zq,wM⟩:=eC h;obtain⟨F',m',c1,c2⟩:=vC hk;refine⟨F',m',c1,fun G w0 μ φ w ρ hM hF=>?_⟩;obtain⟨φ',a1,a2,a3⟩:=wM E.P G w0 μ φ w w ρ (DU none 0 0 (aV E.P e)) hM hF ⟨lA.refl _ _,hM.ro,fun _ _ _ _ _=>rfl,by simp,fun φ' hp _=>by refine⟨by rw[hp];rfl,by rw[hp],rfl,eF,by simp,by rw[hp];simp[maxLen],?_⟩;simp_all,by simp[bR.names],fun st h=>by cases h⟩;have hv:ρ j=.slice none 0 0:=by have:=hF.fr j;rw[hj]at this;generalize ρ j=y at this;cases this;rfl
     refine c2 G w0 μ φ' w ρ a2 ⟨fun s=>?_,fun s id av=>?_⟩
     ·by_cases e:s=j
      ·subst e;rw[show gO f1 s (.os (uk site s)) s=.os (uk site s) by simp_all,hv];exact .s9 (by rw[a1])
      ·rw[rP e];exact a3.fr s
     ·by_cases e:s=j
      ·subst e;rw[show gO f1 s (.os (uk site s)) s=.os (uk site s) by simp_all]at av;have av:=No av;subst av;simp[wP]
      ·rw[rP e]at av;exact a3.live s id av
    ·cases h
   ·cases h
  ·exact vC h
variable{k:V→Fr→Mem→bG→Option R}{r:R}
theorem ZW(hE:kv E)(h:cT E draw site o f m k=some r)(hc:∀c,o.op≠.call c)(hb:∀op t x y ty s es,o.op=.binOp op t x y ty→bL E f x=.pv (.rs s es)→bL E f y≠.iK)(DY:Ol o.op=false):∃v f' m' ft,k v f' m' ft=some r∧vB E draw site o f m v f' m' ft:=by
 obtain⟨dst,op,type,pos,after,guard⟩:=o;unfold cT at h;cases op<;>simp only at h;case move x=>refine⟨_,_,_,_,h,.read (fun f2 m2 hf _ R' k'=>by simp only[cT];rw[hf x (by simp[Op.operands])]) fun w0 μ φ a w hR=>⟨_,rfl,(an hR x).1,(an hR x).2⟩⟩
 case pick c x y=>
  split at h
  ·rename_i t hc;cases t with
   |true=>simp only[aaV]at h;refine⟨_,_,_,_,h,.read (fun f2 m2 hf _ R' k'=>by simp only[cT];rw[hf c (by simp[Op.operands]),hf x (by simp[Op.operands]),hc];simp) fun w0 μ φ a w hR=>?_⟩;have h1:=(an hR c).1;rw[hc]at h1;exact⟨a.eval x,by simp[execOp,Go.asBool,rY h1],(an hR x).1,(an hR x).2⟩
   |false=>simp only[By,abG]at h;refine⟨_,_,_,_,h,.read (fun f2 m2 hf _ R' k'=>by simp only[cT];rw[hf c (by simp[Op.operands]),hf y (by simp[Op.operands]),hc];simp) fun w0 μ φ a w hR=>?_⟩;have h1:=(an hR c).1;rw[hc]at h1;exact⟨a.eval y,by simp[execOp,Go.asBool,rY h1],(an hR y).1,(an hR y).2⟩
  ·cases h
 case assign x=>
  have mk:∀{v},bL E f x=v→(v=.iK→∀e,E.P.underlying type≠some (.slice e))→k v f m []=some r→∃v f' m' ft,k v f' m' ft=some r∧vB E draw site {dst,op:=.assign x,type,pos,after,guard} f m v f' m' ft:=by
   intro v hv cY hk;refine⟨v,f,m,[],hk,.read (fun f2 m2 hf _ R' k'=>?_) fun w0 μ φ a w hR=>⟨_,rfl,hv▸(an hR x).1,hv▸(an hR x).2⟩⟩;simp only[cT];rw[hf x (by simp[Op.operands]),hv];cases v<;>try rfl
   simp only;split
   ·rename_i e hu;exact absurd hu (cY rfl e)
   ·rfl
  split at h
  ·rename_i hx;split at h
   ·rename_i e hu;split at h
    ·rename_i eF;obtain⟨f',m',hn,hk,wP,zq,wM⟩:=eC h;refine⟨_,_,_,_,hk,.make zq (fun _ f2 m2 hf hs R' k'=>?_) fun w0 μ φ a w hR=>?_⟩
     ·simp only[cT];rw[hf x (by simp[Op.operands]),hx];simp only[hu,eF,aaV,fresh,hs]
     ·have h1:=(an hR x).1;rw[hx]at h1;obtain⟨φ',a1,a2,a3⟩:=wM E.P E.aM w0 μ φ w w _ (DU none 0 0 (aV E.P e)) hR.toaz hR.kZ ⟨lA.refl _ _,hR.ro,fun _ _ _ _ _=>rfl,by simp,fun φ' hp _=>by refine⟨by rw[hp];rfl,by rw[hp],rfl,eF,by simp,by rw[hp];simp[maxLen],?_⟩;rw[hp];exact⟨rfl,rfl⟩,by simp[bR.names],fun st h=>by cases h⟩;refine⟨.slice none 0 0,w,μ,φ',?_,a2,a3,.s9 (by rw[a1]),fun id av=>?_⟩
      ·simp only[execOp,Sem.run_pure];generalize a.eval x=y at h1;cases h1;rfl
      ·have av:=No av;subst av;simp[wP]
    ·cases h
   ·rename_i hu;exact mk hx (fun _ e he=>hu e he) h
  ·rename_i hx;exact mk rfl (fun he=>absurd he hx) h
 case alloc t=>
  split at h
  ·rename_i cs hz;obtain⟨i,zv,z1,z2,z3,z4,z5,z6,z7,z8⟩:=eS hz;cases HR:E.BU site with
   |true=>
    rw[HR]at h;simp only[cond_true]at h;split at h
    ·rename_i n e ps hu pX;split at h
     ·rename_i hcc;obtain⟨ha,hl,eF,ahi⟩:=hcc;obtain⟨f',m',hn,hk,wP,zq,wM⟩:=eC h;obtain⟨q1,q2⟩:=iE pX;have ux:(fF (aV E.P e) n (.agg ps)).length=n:=by simp[fF]
      refine⟨_,_,_,_,hk,.make zq (fun _ f2 m2 hf hs R' k'=>by simp only[cT,hz,HR,hu,pX,cond_true];rw[BK ⟨ha,hl,eF,ahi⟩];simp only[fresh,hs]) fun w0 μ φ a w hR=>?_⟩;have oi:ai E.P μ (.agg ps) (.agg zv.cells):=.agg (by omega) (fun i p x hp hx=>by obtain⟨v,hv,hpo⟩:=q2 i p hp;have:=z7 μ φ i v x hv hx;cases v<;>simp[pvO]at hpo;subst hpo;cases this with|pv h=>exact h) z8;have hC:Cells E.P μ (aV E.P e) (fF (aV E.P e) n (.agg ps)) (zv.cells.toList.take ((fF (aV E.P e) n (.agg ps)).length*aV E.P e)):=by
       refine⟨by rw[ux];simp;omega,fun i e' Uk=>?_,fun i e' j p y hi hj hy=>?_,fun i y hy=>z8 i y (by simpa using(eZ hy).2)⟩
       ·obtain⟨_,rfl⟩:=zQ Uk;exact tI
       ·obtain⟨x',x1,x2,_⟩:=HU (k:=i*aV E.P e+j) oi (by omega) hi hj rfl;have:=(eZ hy).2;rw[ajL,x1]at this;cases this;exact x2
      obtain⟨φ',a1,a2,a3⟩:=wM E.P E.aM w0 μ φ w _ _ (DU (some w.heap.size) n (fF (aV E.P e) n (.agg ps)).length (aV E.P e)) hR.toaz hR.kZ (ll.alloc (o:=.cells zv.cells t) hR.toaz rfl (fun φ' hp _=>aN.pB (g:=w.heap.size) (by rw[hp]) rfl eF (by rw[hp];simp only[maxLen,DU];omega) (fS w _) (by rw[hp];simp only[DU];omega) (by rw[hp,ux];exact ajC _) hC) (by simp[bR.names]));refine⟨.pointer (some ⟨w.heap.size,0,none⟩),w.alloc (.cells zv.cells t),μ,φ',by simp[execOp,B9 z1 z2],a2,a3,?_,fun id av=>?_⟩
      ·have:=ah.oe (P:=E.P) (μ:=μ) (φ:=φ') (id:=site) (i:=0) (off:=0) (g:=w.heap.size) (by rw[a1]);simpa using this
      ·have av:=No av;subst av;simp[wP]
     ·cases h
    ·cases h
   |false=>
   rw[HR]at h;simp only[cond_false]at h;split at h
   ·rename_i OU;have hdf:draw=false:=by simp only[T1,ajF]at OU;exact OU.1
    obtain⟨F,m1,g1,g2⟩:=vC h;obtain⟨f',m',hn,hk,wP,zq,wM⟩:=eC g1;refine⟨_,_,_,_,hk,⟨fun hd=>(by rw[hdf]at hd;cases hd),fun _ h=>(by have:=h (true,site) (by simp);cases this),fun w0 μ φ a w K Q hR hK=>?_⟩⟩;have x1:cs.length=zv.cells.size:=by omega
    have x2:=z7 μ φ;have x3:=z8;have hF0:cu E.P μ φ m (wA cs.length cs f) (fun t=>if t<cs.length then zv.cells.getD t undef else ax E.fn.ntmps w0 a (t-cs.length)):=by
     refine⟨fun t=>?_,fun t id av=>?_⟩
     ·unfold wA;by_cases ht:t<cs.length
      ·rw[show Nat.blt t cs.length=true by rw[akH];exact ht,BK ht];show ah E.P μ φ (cs.getD t .top) _;have hx:t<zv.cells.size:=by omega
       rw[show cs.getD t .top=cs[t] by simp[List.getD,ht],show zv.cells.getD t undef=zv.cells[t] by simp[Array.getD,hx]];exact x2 t _ _ (AI ht) (T0 hx)
      ·rw[show Nat.blt t cs.length=false by rw[←akQ,akH];exact ht,IN ht];exact hR.kZ.fr _
     ·unfold wA at av;cases e:Nat.blt t cs.length with
      |true=>
       rw[e]at av;have ht:t<cs.length:=by rwa[akH]at e
       have av:(cs.getD t .top).has id=true:=av;rw[show cs.getD t .top=cs[t] by simp[List.getD,ht]]at av;exact absurd (bU (ajz ht) av) (by rw[z6];simp)
      |false=>rw[e]at av;exact hR.kZ.live _ id av
    obtain⟨φ1,vw,DW⟩:=g2 E.aM w0 μ φ w _ hR.toaz hF0;have ZM:cu E.P μ φ1 m1 (wU cs.length F) (ax E.fn.ntmps w0 a):=by refine⟨fun t=>?_,fun t id av=>DW.live _ id av⟩;have:=DW.fr (t+cs.length);rw[IN (by omega),ak3]at this;exact this
    have VM:∀(i:Nat)u y,((List.range cs.length).map F)[i]?=some u→zv.cells[i]?=some y→ah E.P μ φ1 u y:=fun i u y hu hy=>by
     have hi:i<cs.length:=by have:=(IS.1 hu).1;simpa using this
     have rO:F i=u:=by simpa[hi]using hu
     have:=DW.fr i;rw[BK hi,rO,show zv.cells.getD i undef=y by simp[ajG,hy]]at this;exact this
    obtain⟨φ',a1,a2,a3⟩:=wM E.P E.aM w0 μ φ1 w _ _ _ vw ZM (ll.box (T:=t) vw (c:=zv.cells) (by simp;omega) VM x3 (fun id av=>by obtain⟨u,hu,hh⟩:=cW.1 av;obtain⟨i,_,rfl⟩:=ajJ.1 hu;exact DW.live i id hh));refine fZ (y:=.pointer (some ⟨w.heap.size,0,none⟩)) (w':=w.alloc (.cells zv.cells t)) (by simp[execOp,B9 z1 z2]) (hK _ _ μ φ' a2 a3 (.op (by rw[a1])) fun id av=>?_);have av:=No av;subst av;simp[wP]
   rename_i OU;have h:fresh draw site (.box cs) f m (fun f m ft=>k (.op site 0) f m ft)=some r:=h;obtain⟨f',m',hn,hk,wP,zq,wM⟩:=eC h;refine⟨_,_,_,_,hk,.make zq (fun _ f2 m2 hf hs R' k'=>by simp only[cT,hz,HR,cond_false,fresh,hs,ajx,als,By,abG]) fun w0 μ φ a w hR=>?_⟩;obtain⟨φ',a1,a2,a3⟩:=wM E.P E.aM w0 μ φ w _ _ _ hR.toaz hR.kZ (ll.box (T:=t) hR.toaz (c:=zv.cells) (by omega) (z7 μ φ) z8 (fun id av=>by rw[z6]at av;cases av));refine⟨.pointer (some ⟨w.heap.size,0,none⟩),w.alloc (.cells zv.cells t),μ,φ',by simp[execOp,B9 z1 z2],a2,a3,.op (by rw[a1]),fun id av=>?_⟩;have av:=No av;subst av;simp[wP]
  ·cases h
 case box t x=>
  split at h
  ·rename_i cs hc;obtain⟨n1,n2,n3⟩:=toCells_ok hc;split at h
   ·rename_i OU;have hdf:draw=false:=by simp only[T1,ajF]at OU;exact OU.1
    split at h
    ·rename_i ts hts;split at h
     ·rename_i hlen;obtain⟨F,m1,g1,g2⟩:=vC h;obtain⟨f',m',hn,hk,wP,zq,wM⟩:=eC g1;refine⟨_,_,_,_,hk,⟨fun hd=>(by rw[hdf]at hd;cases hd),fun _ h=>(by have:=h (true,site) (by simp);cases this),fun w0 μ φ a w K Q hR hK=>?_⟩⟩;obtain⟨h1,h2⟩:=an hR x;obtain⟨x1,x2,x3⟩:=n3 _ _ _ _ h1;have hF0:cu E.P μ φ m (wA cs.length cs f) (fun t=>if t<cs.length then(a.eval x).cells.getD t undef else ax E.fn.ntmps w0 a (t-cs.length)):=by
       refine⟨fun t=>?_,fun t id av=>?_⟩
       ·unfold wA;by_cases ht:t<cs.length
        ·rw[show Nat.blt t cs.length=true by rw[akH];exact ht,BK ht];show ah E.P μ φ (cs.getD t .top) _;have hx:t<(a.eval x).cells.size:=by omega
         rw[show cs.getD t .top=cs[t] by simp[List.getD,ht],show(a.eval x).cells.getD t undef=(a.eval x).cells[t] by simp[Array.getD,hx]];exact x2 t _ _ (AI ht) (T0 hx)
        ·rw[show Nat.blt t cs.length=false by rw[←akQ,akH];exact ht,IN ht];exact hR.kZ.fr _
       ·unfold wA at av;cases e:Nat.blt t cs.length with
        |true=>
         rw[e]at av;have ht:t<cs.length:=by rwa[akH]at e
         have av:(cs.getD t .top).has id=true:=av;rw[show cs.getD t .top=cs[t] by simp[List.getD,ht]]at av;exact h2 id (n2 id (bU (ajz ht) av))
        |false=>rw[e]at av;exact hR.kZ.live _ id av
      obtain⟨φ1,vw,DW⟩:=g2 E.aM w0 μ φ w _ hR.toaz hF0;have ZM:cu E.P μ φ1 m1 (wU cs.length F) (ax E.fn.ntmps w0 a):=by refine⟨fun t=>?_,fun t id av=>DW.live _ id av⟩;have:=DW.fr (t+cs.length);rw[IN (by omega),ak3]at this;exact this
      have VM:∀(i:Nat)u y,((List.range cs.length).map F)[i]?=some u→(a.eval x).cells[i]?=some y→ah E.P μ φ1 u y:=fun i u y hu hy=>by
       have hi:i<cs.length:=by have:=(IS.1 hu).1;simpa using this
       have rO:F i=u:=by simpa[hi]using hu
       have:=DW.fr i;rw[BK hi,rO,show(a.eval x).cells.getD i undef=y by simp[ajG,hy]]at this;exact this
      obtain⟨φ',a1,a2,a3⟩:=wM E.P E.aM w0 μ φ1 w _ _ _ vw ZM (ll.box (T:=t) vw (c:=(a.eval x).cells) (by simp;omega) VM x3 (fun id av=>by obtain⟨u,hu,hh⟩:=cW.1 av;obtain⟨i,_,rfl⟩:=ajJ.1 hu;exact DW.live i id hh));refine fZ (y:=.pointer (some ⟨w.heap.size,0,none⟩)) (w':=w.alloc (.cells (a.eval x).cells t)) (by simp[execOp,Sw]) (hK _ _ μ φ' a2 a3 (.op (by rw[a1])) fun id av=>?_);have av:=No av;subst av;simp[wP]
     ·cases h
    ·cases h
   rename_i OU;have h:fresh draw site (.box cs) f m (fun f m ft=>k (.op site 0) f m ft)=some r:=h;have OU:draw=true→(!true&&cs.any V4)=false:=fun _=>rfl;obtain⟨f',m',hn,hk,wP,zq,wM⟩:=eC h;refine⟨_,_,_,_,hk,.make zq (fun _ f2 m2 hf hs R' k'=>by simp only[cT];rw[hf x (by simp[Op.operands])];simp only[hc,fresh,hs,ajx,als,By,abG]) fun w0 μ φ a w hR=>?_⟩;obtain⟨h1,h2⟩:=an hR x;obtain⟨x1,x2,x3⟩:=n3 _ _ _ _ h1;obtain⟨φ',a1,a2,a3⟩:=wM E.P E.aM w0 μ φ w _ _ _ hR.toaz hR.kZ (ll.box (T:=t) hR.toaz (c:=(a.eval x).cells) (by omega) x2 x3 (fun id av=>h2 id (n2 id av)));refine⟨.pointer (some ⟨w.heap.size,0,none⟩),w.alloc (.cells (a.eval x).cells t),μ,φ',by simp[execOp,Sw],a2,a3,.op (by rw[a1]),fun id av=>?_⟩;have av:=No av;subst av;simp[wP]
  ·cases h
 case build t parts=>obtain⟨v,v1,v2,v3,v4⟩:=T8 h;have OR:∀f2:Fr,(∀x∈(Op.build t parts).operands,bL E f2 x=bL E f x)→(parts.toList.map fun(x:Nat×Operand)=>(x.1,bL E f2 x.2))=parts.toList.map fun(x:Nat×Operand)=>(x.1,bL E f x.2):=fun f2 hf=>tn fun x hx=>hf x.2 (by simp only[Op.operands,alG,ajJ];exact⟨x,hx,rfl⟩);refine⟨_,_,_,_,v2,.read (fun f2 m2 hf _ R' k'=>by simp only[cT];rw[OR f2 hf];exact v1 _ _) fun w0 μ φ a w hR=>?_⟩;obtain⟨z,z1,z2⟩:=v4 μ φ w (parts.map fun(i,x)=>(i,a.eval x)) (by simp) (fun j i v hj=>by simp only[IT,ah2]at hj;obtain⟨y,hy,he⟩:=hj;simp only[ado]at he;obtain⟨rfl,rfl⟩:=he;refine⟨a.eval y.2,?_,(an hR y.2).1⟩;rw[ame,←ajL,hy];rfl);refine⟨z,by simp only[execOp,Sem.run_bind,z1,Result.andThen_ok,Sem.run_pure],z2,fun id av=>?_⟩;have h5:=v3 id av;rw[alQ]at h5;obtain⟨u,hu,hh⟩:=cW.1 h5;obtain⟨y,hy,rfl⟩:=ajJ.1 hu;exact(an hR y.2).2 id hh
 case load t x=>obtain⟨v,ft,v1,v2,v3,v4⟩:=Lg h;refine⟨_,_,_,_,v2,.read (fun f2 m2 hf hm R' k'=>by simp only[cT];rw[hf x (by simp[Op.operands])];exact v1 m2 hm _ _) fun w0 μ φ a w hR=>?_⟩;obtain⟨y,y1,y2,y3⟩:=v4 _ _ _ _ _ _ hR.toaz (an hR x).1;exact⟨y,by simp[execOp,y1],y2,y3⟩
 case store t x y=>
  obtain⟨m',ft,k1,k2,k3,k4⟩:=T2 h;refine⟨_,_,_,_,k1,⟨fun hd=>?_,fun h _=>by(simp[fx]at h),fun w0 μ φ a w K Q hR hK=>?_⟩⟩
  ·obtain⟨id,b,rfl,rfl,d3⟩:=k2 hd;refine⟨rfl,[(id,b)],rfl,by simp,fun f2 m2 hf hm R' k'=>?_⟩;simp only[cT];rw[hf x (by simp[Op.operands]),hf y (by simp[Op.operands])];exact d3 m2 (hm (true,id) (by simp)) _ _
  ·obtain⟨w',μ',s1,s2,s3⟩:=k4 _ _ _ _ _ _ _ hR.toaz (an hR x).1 (an hR y).1 (an hR y).2;exact xg (by simp[execOp,s1]) (hK undef w' μ' φ s3 (hR.kZ.ni s2 k3) .top (by simp))
 case nilCheck x=>
  have key:∀{v},bL E f x=v→(∀(μ:Ro)(φ:Nat→aH)y,ah E.P μ φ v y→(∃ad,y=.pointer (some ad))∨∃g xs ys,y=.func (.func g) xs ys)→k v f m []=some r→(∀(R':Type)(k':V→Fr→Mem→bG→Option R')(f2:Fr)(m2:Mem),bL E f2 x=v→cT E true site {dst,op:=.nilCheck x,type,pos,after,guard} f2 m2 k'=k' v f2 m2 [])→∃v f' m' ft,k v f' m' ft=some r∧vB E draw site {dst,op:=.nilCheck x,type,pos,after,guard} f m v f' m' ft:=by
   intro v hv hp hk hn;refine⟨v,f,m,[],hk,.read (fun f2 m2 hf _ R' k'=>hn R' k' f2 m2 (by rw[hf x (by simp[Op.operands]),hv])) fun w0 μ φ a w hR=>?_⟩;obtain⟨h1,h2⟩:=an hR x;rw[hv]at h1 h2;refine⟨a.eval x,?_,h1,h2⟩;rcases hp μ φ _ h1 with⟨ad,e⟩|⟨g,xs,ys,e⟩
   ·simp only[execOp,e];rfl
   ·simp only[execOp,e];rfl
  split at h
  ·rename_i cs hx;exact key hx (fun μ φ y hy=>by cases hy with|pv hy=>cases hy;exact .inl ⟨_,rfl⟩) h fun R' k' f2 m2 e=>by simp only[cT,e]
  ·rename_i id off hx;exact key hx (fun μ φ y hy=>by cases hy;exact .inl ⟨_,rfl⟩) h fun R' k' f2 m2 e=>by simp only[cT,e]
  ·rename_i id i off hx;exact key hx (fun μ φ y hy=>by cases hy;exact .inl ⟨_,rfl⟩) h fun R' k' f2 m2 e=>by simp only[cT,e]
  ·rename_i id i off s j off2 hx;exact key hx (fun μ φ y hy=>by cases hy;exact .inl ⟨_,rfl⟩) h fun R' k' f2 m2 e=>by simp only[cT,e]
  ·rename_i g cs hx;exact key hx (fun μ φ y hy=>by cases hy;exact .inr (rL _ _)) h fun R' k' f2 m2 e=>by simp only[cT,e]
  ·rename_i g cs hx;exact key hx (fun μ φ y hy=>by cases hy with|pv hy=>cases hy;exact .inr (rL _ _)) h fun R' k' f2 m2 e=>by simp only[cT,e]
  ·cases h
 case binOp op t x y ty=>
  have ta:∀(f2:Fr)(m2:Mem)(R':Type)(k':V→Fr→Mem→bG→Option R')(d:Bool),bL E f2 x=bL E f x→bL E f2 y=bL E f y→cT E d site ⟨dst,.binOp op t x y ty,type,pos,after,guard⟩ f2 m2 k'=K4 E op t y (bL E f x) (bL E f y) fun p=>k' (.pv p) f2 m2 []:=by
   intro f2 m2 R' k' d e1 e2;simp only[cT];rw[e1,e2];split
   ·rename_i s es h1 h2;exact absurd h2 (hb op t x y ty s es rfl h1)
   ·rfl
  have h:cT E draw site ⟨dst,.binOp op t x y ty,type,pos,after,guard⟩ f m k=some r:=by simp only[cT];exact h
  rw[ta f m R k draw rfl rfl]at h;obtain⟨q,q1,q2,q3⟩:=WJ h;refine⟨_,_,_,_,q2,.read (fun f2 m2 hf hm R' k'=>by rw[ta f2 m2 R' k' true (hf x (by simp[Op.operands])) (hf y (by simp[Op.operands]))];exact q1 _ _) fun w0 μ φ a w hR=>?_⟩;obtain⟨z,z1,z2⟩:=q3 μ φ w x _ _ (fun hn=>by
   unfold EE at hn;split at hn
   ·rfl
   ·cases hn) (an hR x).1 (an hR y).1
  exact⟨z,by simp only[tF]at z1;simp only[execOp,Sem.run_bind,Sem.run_pure]at z1⊢;rw[z1];rfl,.pv z2,by simp⟩
 case unOp op t x=>obtain⟨q,q1,q2,q3⟩:=abS h;refine⟨_,_,_,_,q2,.read (fun f2 m2 hf hm R' k'=>by simp only[cT];rw[hf x (by simp[Op.operands])];exact q1 _ _) fun w0 μ φ a w hR=>?_⟩;obtain⟨z,z1,z2⟩:=q3 E.P μ φ w _ (an hR x).1;exact⟨z,by simp[execOp,z1],.pv z2,by simp⟩
 case convert s d x=>obtain⟨q,ft,q1,q2,_,q3⟩:=Uo h;refine⟨_,_,_,_,q2,.read (fun f2 m2 hf hm R' k'=>by simp only[cT];rw[hf x (by simp[Op.operands])];exact q1 m2 hm _ _) fun w0 μ φ a w hR=>?_⟩;obtain⟨z,z1,z2⟩:=q3 _ _ μ φ w _ hR.toaz (an hR x).1;exact⟨z,by simp[execOp,z1],.pv z2,by simp⟩
 case fieldAddr s x j=>obtain⟨v,v1,v2,v3,v4⟩:=Ha h;refine⟨_,_,_,_,v2,.read (fun f2 m2 hf hm R' k'=>by simp only[cT];rw[hf x (by simp[Op.operands])];exact v1 _ _) fun w0 μ φ a w hR=>?_⟩;obtain⟨z,z1,z2⟩:=v4 μ φ w _ (an hR x).1;exact⟨z,by simp[execOp,z1],z2,fun id av=>(an hR x).2 id (by rw[←v3];exact av)⟩
 case field s x j=>obtain⟨v,v1,v2,v3,v4⟩:=TT h;refine⟨_,_,_,_,v2,.read (fun f2 m2 hf hm R' k'=>by simp only[cT];rw[hf x (by simp[Op.operands])];exact v1 _ _) fun w0 μ φ a w hR=>?_⟩;obtain⟨z,z1,z2⟩:=v4 μ φ w _ (an hR x).1;exact⟨z,by simp[execOp,z1],z2,fun id av=>(an hR x).2 id (v3 id av)⟩
 case indexAddr t x ix=>obtain⟨v,ft,v1,v2,v3,v4,v5⟩:=Hb h;refine⟨_,_,_,_,v2,.read (fun f2 m2 hf hm R' k'=>by simp only[cT];rw[hf x (by simp[Op.operands]),hf ix (by simp[Op.operands])];exact v1 m2 hm _ _) fun w0 μ φ a w hR=>?_⟩;obtain⟨z,z1,z2⟩:=v5 _ _ μ φ w _ _ hR.toaz (an hR x).1 (an hR ix).1;exact⟨z,by simp[execOp,z1],z2,fun id av=>(an hR x).2 id (v4 id av)⟩
 case index t x ix=>obtain⟨v,v1,v2,v3,v4⟩:=TU h;refine⟨_,_,_,_,v2,.read (fun f2 m2 hf hm R' k'=>by simp only[cT];rw[hf x (by simp[Op.operands]),hf ix (by simp[Op.operands])];exact v1 _ _) fun w0 μ φ a w hR=>?_⟩;obtain⟨z,z1,z2⟩:=v4 μ φ w _ _ (an hR x).1 (an hR ix).1;exact⟨z,by simp[execOp,z1],z2,fun id av=>(an hR x).2 id (v3 id av)⟩
 case lookup t x ix ok=>
  split at h
  ·rename_i hn;have zU:ok=false:=by cases ok<;>simp at hn⊢
   subst zU;obtain⟨id,b1,b2,m',rfl,hk,hs,vg,hb1,av,Lo,ab1⟩:=Wz h;refine⟨_,_,_,_,hk,⟨fun hd=>⟨rfl,[(id,b1),(site,b2)],rfl,by simp,fun f2 m2 hf hm R' k'=>?_⟩,fun _ h=>absurd (h (true,id) (by simp)) (by simp),fun w0 μ φ a w K Q hR hK=>?_⟩⟩
   ·simp only[cT];rw[BK hn,hf x (by simp[Op.operands]),hf ix (by simp[Op.operands])];exact Lo m2 (hm (true,id) (by simp)) (by rw[hm (true,site) (by simp)];exact hs) _ _
   ·obtain⟨u,φ',u1,u2,u3,u4⟩:=ab1 _ _ _ _ _ _ _ _ _ hR.toaz hR.kZ (an hR x).1 (an hR ix).1;exact fZ (y:=u) (w':=w) (by simp[execOp,u1]) (hK u w μ φ' u2 u3 u4 fun j hj=>by have hj:=No hj;subst hj;simp[uf])
  rename_i hn;obtain⟨v,ft,v1,v2,v3,v4,v5⟩:=OG h;refine⟨_,_,_,_,v2,.read (fun f2 m2 hf hm R' k'=>by simp only[cT];rw[IN hn,hf x (by simp[Op.operands]),hf ix (by simp[Op.operands])];exact v1 m2 hm _ _) fun w0 μ φ a w hR=>?_⟩;obtain⟨z,z1,z2⟩:=v5 _ _ μ φ w _ _ hR.toaz (an hR x).1 (an hR ix).1;exact⟨z,by simp[execOp,z1],z2,fun id av=>by rw[v4]at av;cases av⟩
 case mapUpdate t x key val=>
  obtain⟨m',ft,k1,k2,k3,k4⟩:=zt h;refine⟨_,_,_,_,k1,⟨fun hd=>?_,fun h _=>by(simp[fx]at h),fun w0 μ φ a w K Q hR hK=>?_⟩⟩
  ·obtain⟨id,b,rfl,rfl,d3⟩:=k2 hd;refine⟨rfl,[(id,b)],rfl,by simp,fun f2 m2 hf hm R' k'=>?_⟩;simp only[cT];rw[hf x (by simp[Op.operands]),hf key (by simp[Op.operands]),hf val (by simp[Op.operands])];exact d3 m2 (hm (true,id) (by simp)) _ _
  ·obtain⟨w',μ',s1,s2,s3⟩:=k4 _ _ _ _ _ _ _ _ hR.toaz (an hR x).1 (an hR key).1 (an hR val).1;exact xg (by simp[execOp,s1]) (hK undef w' μ' φ s3 (hR.kZ.ni s2 k3) .top (by simp))
 case insert t x key val=>
  obtain⟨m',ft,k1,k2,k3,k4⟩:=zt h;refine⟨_,_,_,_,k1,⟨fun hd=>?_,fun h _=>by(simp[fx]at h),fun w0 μ φ a w K Q hR hK=>?_⟩⟩
  ·obtain⟨id,b,rfl,rfl,d3⟩:=k2 hd;refine⟨rfl,[(id,b)],rfl,by simp,fun f2 m2 hf hm R' k'=>?_⟩;simp only[cT];rw[hf x (by simp[Op.operands]),hf key (by simp[Op.operands]),hf val (by simp[Op.operands])];exact d3 m2 (hm (true,id) (by simp)) _ _
  ·obtain⟨w',μ',s1,s2,s3⟩:=k4 _ _ _ _ _ _ _ _ hR.toaz (an hR x).1 (an hR key).1 (an hR val).1;exact xg (by simp[execOp,s1]) (hK undef w' μ' φ s3 (hR.kZ.ni s2 k3) .top (by simp))
 case extract t i=>
  split at h
  ·rename_i vs hx;split at h
   ·rename_i v hv;refine⟨_,_,_,_,h,.read (fun f2 m2 hf hm R' k'=>by simp only[cT];rw[hf t (by simp[Op.operands]),hx];simp only[hv]) fun w0 μ φ a w hR=>?_⟩;obtain⟨h1,h2⟩:=an hR t;rw[hx]at h1 h2;generalize hy:a.eval t=y at h1;cases h1 with
    | @bu _ xs t1 t2=>
     have cd:i<xs.size:=by have:=(IS.1 hv).1;omega
     refine⟨xs[i],by simp[execOp,hy,Instr.extract,cd],t2 i v _ hv (T0 cd),fun id av=>h2 id (by simp only[V.has];exact bU (ah3 hv) av)⟩
   ·cases h
  ·cases h
 case makeSlice t l c=>
  obtain⟨f',m',b,hd,hk,wP,hs⟩:=Hg h;refine⟨_,_,_,_,hk,.make (fun zq=>⟨(hd zq).1,(hd zq).2.1,(hd zq).2.2.1⟩) (fun zq f2 m2 hf hs' R' k'=>?_) fun w0 μ φ a w hR=>?_⟩
  ·simp only[cT];rw[hf l (by simp[Op.operands]),hf c (by simp[Op.operands])];exact(hd zq).2.2.2 f2 m2 hs' _ _
  ·obtain⟨w',y,φ',r1,r2,r3,r4⟩:=hs _ w0 μ φ w (ax E.fn.ntmps w0 a) _ _ hR.toaz hR.kZ (an hR l).1 (an hR c).1;refine⟨y,w',μ,φ',by simp[execOp,r1],r2,r3,r4,fun id av=>?_⟩;have av:=No av;subst av;exact wP
 case makeMap t hint=>
  split at h
  ·rename_i hh;split at h
   ·rename_i kt et hu;split at h
    ·rename_i hk;obtain⟨ks,Wi⟩:=ajR.1 hk;have Lo:∀f2:Fr,(∀x∈(Op.makeMap t hint).operands,bL E f2 x=bL E f x)→Je E f2 hint=true:=fun f2 hf=>by
      cases hint with
      |none=>rfl
      |some x=>simp only[Je]at hh⊢;rw[hf x (by simp[Op.operands])];exact hh
     have mk:∀b:bR,(∀i off,b.rowAt i off=true→False)→(∀(μ:Ro)(φ':Nat→aH)(w:World),(φ' site).g=some w.heap.size→hU E.P μ φ' (w.alloc (.map #[] 0)) site b)→(∀id,b.names id=false)→(∀st,b≠.loop st)→fresh draw site b f m (fun f m ft=>k (.om site) f m ft)=some r→(∀(f2:Fr)(m2:Mem),(∀x∈(Op.makeMap t hint).operands,bL E f2 x=bL E f x)→m2 site=none→∀(R':Type)(k':V→Fr→Mem→bG→Option R'),cT E true site ⟨dst,.makeMap t hint,type,pos,after,guard⟩ f2 m2 k'=k' (.om site) f2 (aq m2 site b) [(true,site)])→∃v f' m' ft,k v f' m' ft=some r∧vB E draw site ⟨dst,.makeMap t hint,type,pos,after,guard⟩ f m v f' m' ft:=by
      intro b N6 ku hnm hlp h Wc;obtain⟨f',m',hn,qg,wP,zq,wM⟩:=eC h N6;refine⟨_,_,_,_,qg,.make zq (fun _ f2 m2 hf hs R' k'=>Wc f2 m2 hf hs R' k') fun w0 μ φ a w hR=>?_⟩;obtain⟨φ',a1,a2,a3⟩:=wM E.P E.aM w0 μ φ w _ _ (DU (some w.heap.size) 0 0 0) hR.toaz hR.kZ (ll.alloc (o:=.map #[] 0) hR.toaz rfl (fun φ' hp _=>ku _ _ _ (by rw[hp])) (fun id av=>by rw[hnm]at av;cases av) (fun st h=>absurd h (hlp st)));have pZ:(Instr.makeMap t (hint.map a.eval)).run E.P w=.ok (.map (some w.heap.size)) (w.alloc (.map #[] 0)):=by
       cases hint with
       |none=>rfl
       |some x=>
        have h1:=(an hR x).1;simp only[Je]at hh;split at hh
        ·rename_i q n hx;rw[hx]at h1;generalize hy:a.eval x=y at h1;cases h1 with
         |pv h1=>cases h1;simp[Instr.makeMap,hy,run_underlying hu,Go.asInt,asIntOf,newObj];rfl
        ·cases hh
      refine⟨.map (some w.heap.size),w.alloc (.map #[] 0),μ,φ',by simp only[execOp,Sem.run_bind,pZ];rfl,a2,a3,.om (by rw[a1]),fun id av=>?_⟩;have av:=No av;subst av;simp[wP]
     split at h
     ·rename_i ab2;split at h
      ·rename_i e hue;exact mk (.fv kt e []) (fun i off h=>by cases off<;>simp[bR.rowAt]at h) (fun μ φ' w hg=>⟨w.heap.size,#[],0,ks,hg,fS w _,rfl,Wi,by simp,fun i e h=>by simp at h,by simp⟩) (fun _=>rfl) (fun st h=>by cases h) h fun f2 m2 hf hs R' k'=>by simp only[cT,Lo f2 hf,hu,hk,fresh,hs,aaV,ab2,hue]
      ·cases h
     ·rename_i ab2;exact mk (.map kt []) (fun i off h=>by simp[bR.rowAt]at h) (fun μ φ' w hg=>Lp Wi hg) (fun _=>rfl) (fun st h=>by cases h) h fun f2 m2 hf hs R' k'=>by simp only[cT,Lo f2 hf,hu,hk,fresh,hs,aaV];rw[IN ab2]
    ·cases h
   ·cases h
  ·cases h
 case makeFunc fn first caps=>
  cases fn<;>simp only at h;case func g=>
   cases WD:Nat.blt g EC with
   |false=>rw[WD]at h;cases h
   |true=>
   rw[WD]at h;simp only[cond_true]at h;split at h
   ·rename_i ab3;have hf0:first= #[]:=by simpa using ab3
    subst hf0;refine⟨_,_,_,_,h,.read (fun f2 m2 hf hm R' k'=>?_) fun w0 μ φ a w hR=>⟨.func (.func g) #[] (caps.map a.eval),by simp[execOp,Instr.makeFunc],by rw[←rK WD];exact .fn (lP hR).1 (lP hR).2,fun id av=>rq hR (by simpa only[V.has]using av)⟩⟩;simp only[cT,WD,cond_true];rw[BK (by simp),pn fun x hx=>hf x (by simpa[Op.operands]using hx)]
   ·rename_i ab3;split at h
    ·rename_i hcp;have hc0:caps= #[]:=by simpa using hcp
     subst hc0;refine⟨_,_,_,_,h,.read (fun f2 m2 hf hm R' k'=>?_) fun w0 μ φ a w hR=>⟨.func (.func g) (first.map a.eval) #[],by simp[execOp,Instr.makeFunc],by rw[←WM];exact .fn (lP hR).1 (lP hR).2,fun id av=>rq hR (by simpa only[V.has]using av)⟩⟩;simp only[cT,WD,cond_true];rw[IN ab3,BK (by simp),pn fun x hx=>hf x (by simpa[Op.operands]using hx)]
    ·cases h
  all_goals (cases h)
 case slice t x lo hi mx=>
  obtain⟨v,ft,v1,v2,v3,v4,v6⟩:=TV h;have hlo:∀f2:Fr,(∀y∈(Op.slice t x lo hi mx).operands,bL E f2 y=bL E f y)→lo.map (bL E f2)=lo.map (bL E f)∧hi.map (bL E f2)=hi.map (bL E f)∧mx.map (bL E f2)=mx.map (bL E f):=fun f2 hf=>by
   refine⟨?_,?_,?_⟩
   ·cases lo with
    |none=>rfl
    |some y=>simp only[ah5];rw[hf y (by simp[Op.operands])]
   ·cases hi with
    |none=>rfl
    |some y=>simp only[ah5];rw[hf y (by simp[Op.operands])]
   ·cases mx with
    |none=>rfl
    |some y=>simp only[ah5];rw[hf y (by simp[Op.operands])]
  refine⟨_,_,_,_,v2,.read (fun f2 m2 hf hm R' k'=>by simp only[cT];rw[hf x (by simp[Op.operands]),(hlo f2 hf).1,(hlo f2 hf).2.1,(hlo f2 hf).2.2];exact v1 m2 hm _ _) fun w0 μ φ a w hR=>?_⟩;obtain⟨z,z1,z2⟩:=v6 _ _ μ φ w (a.eval x) (lo.map a.eval) (hi.map a.eval) (mx.map a.eval) hR.toaz (an hR x).1 (fun v hv=>by
   obtain⟨y,rfl,rfl⟩:=ah2.1 hv;exact⟨_,rfl,(an hR y).1⟩) (fun hv=>by cases lo<;>simp at hv⊢) (fun v hv=>by
   obtain⟨y,rfl,rfl⟩:=ah2.1 hv;exact⟨_,rfl,(an hR y).1⟩) (fun hv=>by cases hi<;>simp at hv⊢) (fun v hv=>by
   obtain⟨y,rfl,rfl⟩:=ah2.1 hv;exact⟨_,rfl,(an hR y).1⟩) (fun hv=>by cases mx<;>simp at hv⊢)
  exact⟨z,by simp[execOp,z1],z2,fun id av=>(an hR x).2 id (v4 id av)⟩
 case buildSlice t len parts=>
  split at h
  ·rename_i e hu;split at h
   ·rename_i VG;split at h
    ·rename_i cs oi;split at h
     ·rename_i hc;obtain⟨hlen,ta,Cd,OA⟩:=hc;obtain⟨zc,VK⟩:=ajR.1 OA;obtain⟨iz,zv,z1,z2,z3,_⟩:=eS VK;obtain⟨p1,p2,p3⟩:=HZ oi;obtain⟨f',m',hn,hk,wP,zq,wM⟩:=eC h;refine⟨_,_,_,_,hk,.make (b:=.box cs) zq (fun _ f2 m2 hf hs R' k'=>by have OR:(parts.toList.map fun(x:Nat×Operand)=>(x.1,bL E f2 x.2))=parts.toList.map fun(x:Nat×Operand)=>(x.1,bL E f x.2):=tn fun x hx=>hf x.2 (by simp only[Op.operands,alG,ajJ];exact⟨x,hx,rfl⟩);simp only[cT,hu,VG,aaV];rw[OR];simp only[oi];rw[BK ⟨hlen,ta,Cd,OA⟩];simp only[fresh,hs]) fun w0 μ φ a w hR=>?_⟩;have DX:parts.toList.length=len:=by rw[←hlen];simp
      have ux:cs.length=len:=by rw[p1];simp[←DX]
      have Ly:∃c0:Array Value,c0.size=0+parts.toList.length∧∀cells,Instr.fill (fun i=>some (i*1,1)) c0 (parts.map fun(i,x)=>(i,a.eval x)).toList=some cells→(Instr.buildSlice t len (parts.map fun(i,x)=>(i,a.eval x))).run E.P w=.ok (.slice (some ⟨w.heap.size,0,none⟩) len len) (w.alloc (.cells cells e)):=by
       by_cases h0:len*aV E.P e=0
       ·have N8:len=0:=by rw[ta]at h0;omega
        refine⟨#[],by simp[DX,N8],fun cells hf=>?_⟩;subst N8;have HL:parts= #[]:=by apply alj;simpa using ajB DX
        subst HL;have hf':cells= #[]:=by simpa[Instr.fill]using hf.symm
        subst hf';simp[Instr.buildSlice,run_underlying hu,sizeOf,typeInfo,z1,newRow,Instr.fill,Array.range_zero']
       ·refine⟨(Array.range (len*aV E.P e)).map (zv.cells[·%zv.cells.size]!),by simp[DX,ta],fun cells hf=>?_⟩;exact run_buildSlice w t e len _ cells iz zv hu z1 z2 (by rw[z3,ta];omega) (by rw[z3];exact h0) (by rw[z3];simp only[ta]at hf⊢;exact hf)
      obtain⟨c0,c1,c2⟩:=Ly;obtain⟨c',d1,d2,d3,d4⟩:=p3 E.P μ φ (parts.map fun(i,x)=>(i,a.eval x)).toList c0 (by simp) (fun j i v hj=>by simp only[IT,ah2]at hj;obtain⟨y,hy,he⟩:=hj;simp only[ado]at he;obtain⟨rfl,rfl⟩:=he;exact⟨a.eval y.2,by simp[hy],(an hR y.2).1⟩) (by rw[c1];simp);have oh:c'.size=cs.length:=by rw[d2,c1,ux];omega
      have ec:∀(i:Nat)u y,cs[i]?=some u→c'[i]?=some y→ah E.P μ φ u y∧y.oneCell'=true:=fun i u y hu hy=>by obtain⟨z,e1,e2,e3⟩:=d4 i u hu;rw[ako,hy]at e1;cases e1;exact⟨e2,e3⟩
      obtain⟨φ',a1,a2,a3⟩:=wM E.P E.aM w0 μ φ w (w.alloc (.cells c' e)) _ (DU (some w.heap.size) len cs.length 1) hR.toaz hR.kZ (ll.alloc (o:=.cells c' e) hR.toaz rfl (fun φ' hp TY=>⟨w.heap.size,c',e,by rw[hp],fS w _,oh,fun i u y hu hy=>(ec i u y hu hy).1.mono (fun _ _ h=>h) fun id av=>TY id (bU (ah3 hu) av),fun i y hy=>by
       have cd:=(adp.1 hy).1;have hu:cs[i]?=some (cs[i]'(by omega)):=AI (by omega);exact(ec i _ y hu hy).2,by rw[hp]⟩) (fun id av=>by
       have h5:=p2 id av;rw[alQ]at h5;obtain⟨u,hu,hh⟩:=cW.1 h5;obtain⟨y,hy,rfl⟩:=ajJ.1 hu;exact(an hR y.2).2 id hh))
      refine⟨.slice (some ⟨w.heap.size,0,none⟩) len len,w.alloc (.cells c' e),μ,φ',by simp only[execOp,Sem.run_bind,c2 c' d1,Result.andThen_ok,Sem.run_pure],a2,a3,?_,fun id av=>?_⟩
      ·have:=ah.os (P:=E.P) (μ:=μ) (φ:=φ') (id:=site) (g:=w.heap.size) (by rw[a1]);rw[a1,ux]at this;exact this
      ·have av:=No av;subst av;simp[wP]
     ·cases h
    ·cases h
   rename_i ahj;have hnf:Sf E e=false:=by simpa using ahj
   split at h
   ·rename_i hfz;split at h
    ·rename_i es m1 Hi;split at h
     ·rename_i hc;obtain⟨hlen,eF,Cd,OA⟩:=hc;obtain⟨zc,VK⟩:=ajR.1 OA;obtain⟨iz,zv,z1,z2,z3,_⟩:=eS VK;have hpm:=(rZ Hi).2 m;obtain⟨p1,p2,p3⟩:=tJ hpm;refine⟨_,_,_,_,h,⟨fun hd=>⟨rfl,[],rfl,by simp,fun f2 m2 hf _ R' k'=>?_⟩,fun _ _=>⟨rfl,rfl⟩,fun w0 μ φ a w K Q hR hK=>?_⟩⟩
      ·have OR:(parts.toList.map fun(x:Nat×Operand)=>(x.1,bL E f2 x.2))=parts.toList.map fun(x:Nat×Operand)=>(x.1,bL E f x.2):=tn fun x hx=>hf x.2 (by simp only[Op.operands,alG,ajJ];exact⟨x,hx,rfl⟩);simp only[cT,hu,hnf,By,abG,hfz,aaV];rw[OR];simp only[Hi];rw[BK ⟨hlen,eF,Cd,OA⟩];rfl
      have DX:parts.toList.length=len:=by rw[←hlen,p2];simp
      have Ly:∃c0:Array Value,c0.size=(0+parts.toList.length)*aV E.P e∧∀cells,Instr.fill (fun i=>some (i*aV E.P e,aV E.P e)) c0 (parts.map fun(i,x)=>(i,a.eval x)).toList=some cells→(Instr.buildSlice t len (parts.map fun(i,x)=>(i,a.eval x))).run E.P w=.ok (.slice (some ⟨w.heap.size,0,none⟩) len len) (w.alloc (.cells cells e)):=by
       by_cases h0:len*aV E.P e=0
       ·have N8:len=0:=by rcases Nat.mul_eq_zero.1 h0 with h|h<;>omega
        refine⟨#[],by simp[DX,N8],fun cells hf=>?_⟩;subst N8;have HL:parts= #[]:=by apply alj;simpa using ajB DX
        subst HL;have hf':cells= #[]:=by simpa[Instr.fill]using hf.symm
        subst hf';simp[Instr.buildSlice,run_underlying hu,sizeOf,typeInfo,z1,newRow,Instr.fill,Array.range_zero']
       ·refine⟨(Array.range (len*aV E.P e)).map (zv.cells[·%zv.cells.size]!),by simp[DX],fun cells hf=>?_⟩;exact run_buildSlice w t e len _ cells iz zv hu z1 z2 (by rw[z3];omega) (by rw[z3];exact h0) (by rw[z3];exact hf)
      obtain⟨c0,c1,c2⟩:=Ly;obtain⟨μ',c',d1,d2,d3,d4,d5⟩:=p3 E.P E.aM w0 μ φ w (parts.map fun(i,x)=>(i,a.eval x)).toList [] c0 hR.toaz (by simp) (fun j i v hj=>by simp only[IT,ah2]at hj;obtain⟨y,hy,he⟩:=hj;simp only[ado]at he;obtain⟨rfl,rfl⟩:=he;exact⟨a.eval y.2,by simp[hy],(an hR y.2).1⟩) rfl (by simpa using c1) (by simpa using Cells.nil);simp only[aj1]at d5;have hb:lA w.heap.size w (w.alloc (.cells c' e)):=(lA.refl _ w).alloc (ajC _) _;have hA:aN E.P μ' (fun _=>DU (some w.heap.size) len es.length (aV E.P e)) (w.alloc (.cells c' e)) 0 (aV E.P e) e es:=aN.pB (g:=w.heap.size) rfl rfl eF (by simp only[maxLen,DU];have:len*1≤len*aV E.P e:=akx _ eF;omega) (fS w _) (by simp only[DU];rw[d4];simp[←DX]) (by simp only[DU];omega) (by have h1:=d5.len;rw[aj8 (by rw[h1];exact ajC _)];exact d5);have H5:=kW d2 (w.alloc (.cells c' e));have hV:=hA.Jm (g:=w.heap.size) rfl (lo:=0) (len:=len) (by omega) (cap:=len) (by simp only[DU];omega) (ajC _) H5 (by simp[cN]);rw[am4,amX,aj8 (by omega)]at hV;exact fZ (by simp only[execOp,Sem.run_bind,c2 c' d3,Result.andThen_ok,Sem.run_pure]) (hK _ _ _ φ (d2.called hb) ((hR.kZ.ni d1 p1).ni H5 (.refl _)) (.pv hV) (fun id av=>by cases av))
     ·cases h
    ·cases h
   rename_i ahk;split at h
   ·rename_i es m1 Hi;split at h
    ·rename_i hc;obtain⟨hlen,eF,Cd,OA⟩:=hc;obtain⟨zc,VK⟩:=ajR.1 OA;obtain⟨iz,zv,z1,z2,z3,_⟩:=eS VK;have Ze:∃mm,mm=(if draw then m else m1)∧fp m (aV E.P e) (aF E.P e) 0 (parts.toList.map fun(i,x)=>(i,bL E f x))=some (es,mm):=by
      cases draw with
      |true=>exact⟨m,rfl,(rZ Hi).2 m⟩
      |false=>exact⟨m1,rfl,Hi⟩
     obtain⟨mm,hme,hpm⟩:=Ze;rw[←hme]at h;obtain⟨p1,p2,p3⟩:=tJ hpm;obtain⟨f',m',hn,hk,wP,zq,wM⟩:=eC h;refine⟨_,_,_,_,hk,.make (b:=.arr (aV E.P e) e es) (fun hd=>by
      have:=zq hd;rw[hd]at hme;simp only[aaV]at hme;rw[hme]at this;exact this) (fun hd f2 m2 hf hs R' k'=>by
      subst hd;have OR:(parts.toList.map fun(x:Nat×Operand)=>(x.1,bL E f2 x.2))=parts.toList.map fun(x:Nat×Operand)=>(x.1,bL E f x.2):=tn fun x hx=>hf x.2 (by simp only[Op.operands,alG,ajJ];exact⟨x,hx,rfl⟩);simp only[cT,hu,hnf,By,abG,ahk,aaV];rw[OR];simp only[aaV]at Hi;simp only[Hi];rw[BK ⟨hlen,eF,Cd,OA⟩];simp only[fresh,hs]) fun w0 μ φ a w hR=>?_⟩
     have DX:parts.toList.length=len:=by rw[←hlen,p2];simp
     have Ly:∃c0:Array Value,c0.size=(0+parts.toList.length)*aV E.P e∧∀cells,Instr.fill (fun i=>some (i*aV E.P e,aV E.P e)) c0 (parts.map fun(i,x)=>(i,a.eval x)).toList=some cells→(Instr.buildSlice t len (parts.map fun(i,x)=>(i,a.eval x))).run E.P w=.ok (.slice (some ⟨w.heap.size,0,none⟩) len len) (w.alloc (.cells cells e)):=by
      by_cases h0:len*aV E.P e=0
      ·have N8:len=0:=by rcases Nat.mul_eq_zero.1 h0 with h|h<;>omega
       refine⟨#[],by simp[DX,N8],fun cells hf=>?_⟩;subst N8;have HL:parts= #[]:=by apply alj;simpa using ajB DX
       subst HL;have hf':cells= #[]:=by simpa[Instr.fill]using hf.symm
       subst hf';simp[Instr.buildSlice,run_underlying hu,sizeOf,typeInfo,z1,newRow,Instr.fill,Array.range_zero']
      ·refine⟨(Array.range (len*aV E.P e)).map (zv.cells[·%zv.cells.size]!),by simp[DX],fun cells hf=>?_⟩;exact run_buildSlice w t e len _ cells iz zv hu z1 z2 (by rw[z3];omega) (by rw[z3];exact h0) (by rw[z3];exact hf)
     obtain⟨c0,c1,c2⟩:=Ly;obtain⟨μ',c',d1,d2,d3,d4,d5⟩:=p3 E.P E.aM w0 μ φ w (parts.map fun(i,x)=>(i,a.eval x)).toList [] c0 hR.toaz (by simp) (fun j i v hj=>by simp only[IT,ah2]at hj;obtain⟨y,hy,he⟩:=hj;simp only[ado]at he;obtain⟨rfl,rfl⟩:=he;exact⟨a.eval y.2,by simp[hy],(an hR y.2).1⟩) rfl (by simpa using c1) (by simpa using Cells.nil);simp only[aj1]at d5;obtain⟨φ',a1,a2,a3⟩:=wM E.P E.aM w0 μ' φ w _ _ (DU (some w.heap.size) len es.length (aV E.P e)) d2 (hR.kZ.ni d1 p1) (ll.alloc (o:=.cells c' e) d2 rfl (fun φ' hp _=>aN.pB (g:=w.heap.size) (by rw[hp]) rfl eF (by rw[hp];simp only[maxLen];have:len*1≤len*aV E.P e:=akx _ eF;omega) (fS w _) (by rw[hp,d4];simp[←DX]) (by rw[hp];simp[hlen]) (by have h1:=d5.len;rw[aj8 (by rw[h1];exact ajC _)];exact d5)) (by simp[bR.names]));refine⟨.slice (some ⟨w.heap.size,0,none⟩) len len,w.alloc (.cells c' e),μ',φ',by simp only[execOp,Sem.run_bind,c2 c' d3,Result.andThen_ok,Sem.run_pure],a2,a3,?_,fun id av=>?_⟩
     ·have:=ah.os (P:=E.P) (μ:=μ') (φ:=φ') (id:=site) (g:=w.heap.size) (by rw[a1]);rw[a1,hlen]at this;exact this
     ·have av:=No av;subst av;simp[wP]
    ·cases h
   ·cases h
  ·cases h
 case call c=>exact absurd rfl (hc c)
 case range t x=>cases DY
 case next x s=>cases DY
 case entry x=>cases DY
 all_goals (cases h)
variable{dst:Option Nat}{after:Array Edge}{guard:Option (Nat×Bool)}
theorem WN(hE:kv E){callee:Callee}{argTypes:Array TypeId}{type:TypeId}{pos:String}(h:cT E draw site ⟨dst,.call ⟨callee,args,argTypes⟩,type,pos,after,guard⟩ f m k=some r):(∃v f' m' ft,k v f' m' ft=some r∧vB E draw site ⟨dst,.call ⟨callee,args,argTypes⟩,type,pos,after,guard⟩ f m v f' m' ft)∨(draw=false∧Ft E ⟨dst,.call ⟨callee,args,argTypes⟩,type,pos,after,guard⟩ f m k r):=by
 unfold cT at h;simp only at h;have rX:∀f2:Fr,(∀x∈(Op.call ⟨callee,args,argTypes⟩).operands,bL E f2 x=bL E f x)→args.toList.map (bL E f2)=args.toList.map (bL E f):=fun f2 hf=>pn fun x hx=>hf x (by simp_all[Op.operands,Call.operands]);have ku:=fun{w0 μ φ a w}(hR:Rel E.P E.aM E.fn.ntmps w0 μ φ f m a w)=>lP hR (args:=args);have known:∀(g:FuncId)(vs:List V),wz E draw site g vs f m k=some r→(∀w0 μ φ a w,Rel E.P E.aM E.fn.ntmps w0 μ φ f m a w→∃xs,(execOp a.eval ⟨dst,.call ⟨callee,args,argTypes⟩,type,pos,after,guard⟩).run E.P w=(callFunc g xs).run E.P w∧vs.length=xs.size∧(∀(i:Nat)v x,vs[i]?=some v→xs[i]?=some x→ah E.P μ φ v x)∧∀id,cD id vs=true→(m id).isSome=true)→(∀(f2:Fr)(m2:Mem),(∀x∈(Op.call ⟨callee,args,argTypes⟩).operands,bL E f2 x=bL E f x)→∀(R':Type)(k':V→Fr→Mem→bG→Option R'),cT E true site ⟨dst,.call ⟨callee,args,argTypes⟩,type,pos,after,guard⟩ f2 m2 k'=wz E true site g vs f2 m2 k')→(∃v f' m' ft,k v f' m' ft=some r∧vB E draw site ⟨dst,.call ⟨callee,args,argTypes⟩,type,pos,after,guard⟩ f m v f' m' ft)∨(draw=false∧Ft E ⟨dst,.call ⟨callee,args,argTypes⟩,type,pos,after,guard⟩ f m k r):=by
  intro g vs hx pZ Lo;obtain h0|⟨zq,⟨fn,c,f1,f2,f3⟩,k5⟩:=Ww hE hx;rotate_left
  ·refine .inr ⟨zq,And.intro (fun c x y h=>by cases h) fun rd w0 μ φ a w K Q _ hR hK=>Ce (fun c h=>by cases h) ?_⟩;obtain⟨xs,x1,x2,x3,x4⟩:=pZ w0 μ φ a w hR;unfold Oper.wp;rw[x1,yO f1 f3 f2];rw[Oper.upon_enter];refine(k5 w0 μ φ _ w xs hR.toaz hR.kZ x2 x3 x4).mono ?_;grind
  obtain⟨v,f',m',ft,k1,k2,ks,⟨fn,c,f1,f2,f3⟩,k5⟩:=h0;refine .inl ⟨v,f',m',ft,k1,⟨fun hd=>?_,fun _ h=>ks h,fun w0 μ φ a w K Q hR hK=>?_⟩⟩
  ·obtain⟨d1,wr,d2,d3,d4⟩:=k2 hd;exact⟨d1,wr.toList,by rw[d2];cases wr<;>rfl,fun x hx=>(by grind),fun f2 m2 hf hm R' k'=>by rw[Lo f2 m2 hf,d4 f2 m2 hm R' k'];cases wr<;>rfl⟩
  ·obtain⟨xs,x1,x2,x3,x4⟩:=pZ w0 μ φ a w hR;unfold Oper.wp;rw[x1,yO f1 f3 f2];rw[Oper.upon_enter];refine(k5 w0 μ φ _ w xs hR.toaz hR.kZ x2 x3 x4).mono ?_;grind
 have read:∀{v:V}{ft:bG},k v f m ft=some r→(∀(f2:Fr)(m2:Mem),(∀x∈(Op.call ⟨callee,args,argTypes⟩).operands,bL E f2 x=bL E f x)→(∀x∈ft,m2 x.2=m x.2)→∀(R':Type)(k':V→Fr→Mem→bG→Option R'),cT E true site ⟨dst,.call ⟨callee,args,argTypes⟩,type,pos,after,guard⟩ f2 m2 k'=k' v f2 m2 ft)→(∀w0 μ φ a w,Rel E.P E.aM E.fn.ntmps w0 μ φ f m a w→∃y,(execOp a.eval ⟨dst,.call ⟨callee,args,argTypes⟩,type,pos,after,guard⟩).run E.P w=.ok (.value y) w∧ah E.P μ φ v y∧∀id,v.has id=true→(m id).isSome=true)→(∃v f' m' ft,k v f' m' ft=some r∧vB E draw site ⟨dst,.call ⟨callee,args,argTypes⟩,type,pos,after,guard⟩ f m v f' m' ft)∨(draw=false∧Ft E ⟨dst,.call ⟨callee,args,argTypes⟩,type,pos,after,guard⟩ f m k r):=fun hk hn hs=>.inl ⟨_,_,_,_,hk,.read hn hs⟩;have one:∀{l:List Operand}{u:V},l.map (bL E f)=[u]→∃x,l=[x]∧u=bL E f x:=by simp_all
 have two:∀{l:List Operand}{u v:V},l.map (bL E f)=[u,v]→∃x y,l=[x,y]∧u=bL E f x∧v=bL E f y:=by
  intro l u v h;match l with
  |[]=>simp at h
  |[x]=>simp at h
  |[x,y]=>grind
  |_::_::_::_=>simp at h
 have four:∀{l:List Operand}{u1 u2 u3 u4:V},l.map (bL E f)=[u1,u2,u3,u4]→∃x y z t,l=[x,y,z,t]∧u1=bL E f x∧u2=bL E f y∧u3=bL E f z∧u4=bL E f t:=by
  intro l u1 u2 u3 u4 h;match l with
  |[]=>simp at h
  |[x]=>simp at h
  |[x,y]=>simp at h
  |[x,y,z]=>simp at h
  |[x,y,z,t]=>grind
  |_::_::_::_::_::_=>simp at h
 have ab4:∀{A:Type}{xs:Array A}{x:A},xs.toList=[x]→xs= #[x]:=fun h=>alj (by omega);have WO:∀{A:Type}{xs:Array A}{x y:A},xs.toList=[x,y]→xs= #[x,y]:=fun h=>alj (by omega);split at h
 ·rename_i u hu;obtain⟨x,hx,rfl⟩:=one hu;split at h
  ·rename_i t ht;obtain⟨v,ft,v1,v2,v3,v4,v5⟩:=ZD h;refine read v2 (fun f2 m2 hf hm R' k'=>?_) (fun w0 μ φ a w hR=>?_)
   ·grind [cT]
   ·have e1:=ab4 hx;have e2:=ab4 ht;subst e1;subst e2;obtain⟨z,z1,z2⟩:=v5 _ _ μ φ w _ type hR.toaz (an hR x).1 (an hR x).2;exact⟨z,by simp[execOp,resolve,invoke,builtin,z1],z2,fun id av=>by grind⟩
  ·cases h
 ·rename_i u u' hu;obtain⟨x,y,hx,rfl,rfl⟩:=two hu;split at h
  ·rename_i t t' ht;obtain⟨hd,ht',place,f',m',k1,k2,k3⟩:=OB h;subst ht';refine .inl ⟨_,_,_,_,k1,⟨fun hd'=>(by grind),fun h _=>by(simp[fx]at h),fun w0 μ φ a w K Q hR hK=>?_⟩⟩;have e1:=WO hx;have e2:=WO ht;subst e1;subst e2;obtain⟨w',z,φ',z1,z2,z3,z4⟩:=k3 _ w0 μ φ w (ax E.fn.ntmps w0 a) _ _ type hR.toaz hR.kZ (an hR x).1 (an hR y).1;exact fZ (y:=z) (w':=w') (by simp[execOp,resolve,invoke,builtin,z1]) (hK z w' μ φ' z2 z3 z4 fun id av=>by have av:=No av;subst av;omega)
  ·cases h
 ·rename_i u u' hu;obtain⟨x,y,hx,rfl,rfl⟩:=two hu;split at h
  ·rename_i t ts ht;obtain⟨n,id,b,ft,c1,c2,c3⟩:=Ws h;refine .inl ⟨_,_,_,_,c2,⟨fun hd=>⟨rfl,[(id,b)],rfl,by simp,fun f2 m2 hf hm R' k'=>?_⟩,fun h _=>by(simp[fx]at h),fun w0 μ φ a w K Q hR hK=>?_⟩⟩
   ·simp only[cT,rX f2 hf,hu,ht];exact c1 m2 hm _ _
   ·have e1:=WO hx;subst e1;have e2:argTypes=(t::ts).toArray:=alj (by omega);subst e2;obtain⟨w',φ',z1,z2,z3,z4⟩:=c3 _ w0 μ φ w (ax E.fn.ntmps w0 a) f _ _ ts type hR.toaz hR.kZ (an hR x).1 (an hR y).1;exact fZ (y:=.int .i64 n) (w':=w') (by simp only[execOp,resolve,invoke,builtin,Sem.run_bind,Sem.run_pure,Result.andThen_ok];rw[show(#[x,y].map a.eval)= #[a.eval x,a.eval y] by simp,z1];rfl) (hK _ w' μ φ' z2 z3 (.pv (.int z4)) (by simp))
  ·cases h
 ·rename_i u hu;obtain⟨x,hx,rfl⟩:=one hu;split at h
  ·rename_i t ts ht;obtain⟨id,b,c1,c2,c3⟩:=T7 h;refine .inl ⟨_,_,_,_,c2,⟨fun hd=>⟨rfl,[(id,b)],rfl,by simp,fun f2 m2 hf hm R' k'=>?_⟩,fun h _=>by(simp[fx]at h),fun w0 μ φ a w K Q hR hK=>?_⟩⟩
   ·simp only[cT,rX f2 hf,hu,ht];exact c1 m2 (hm (true,id) (by simp)) _ _
   ·have e1:=ab4 hx;subst e1;have e2:argTypes=(t::ts).toArray:=alj (by omega);subst e2;obtain⟨w',z1,z2,z3⟩:=c3 _ w0 μ φ w (ax E.fn.ntmps w0 a) f _ ts type hR.toaz hR.kZ (an hR x).1;exact fZ (y:=.tuple #[]) (w':=w') (by simp only[execOp,resolve,invoke,builtin,Sem.run_bind,Sem.run_pure,Result.andThen_ok];rw[show(#[x].map a.eval)= #[a.eval x] by simp,z1];rfl) (hK _ w' μ φ z2 z3 .top (by simp))
  ·cases h
 ·rename_i u u' hu;obtain⟨x,y,hx,rfl,rfl⟩:=two hu;obtain⟨q,q1,q2,q3⟩:=Wk h;refine read q2 (fun f2 m2 hf hm R' k'=>?_) (fun w0 μ φ a w hR=>?_)
  ·grind [cT]
  ·have e1:=WO hx;subst e1;obtain⟨z,z1,z2⟩:=q3 E.P μ φ w _ _ (an hR x).1 (an hR y).1;exact⟨z,by simp[execOp,resolve,invoke,builtin,Builtin.min_,z1],.pv z2,by simp⟩
 ·rename_i u u' hu;obtain⟨x,y,hx,rfl,rfl⟩:=two hu;obtain⟨q,q1,q2,q3⟩:=A0 h;refine read q2 (fun f2 m2 hf hm R' k'=>?_) (fun w0 μ φ a w hR=>?_)
  ·grind [cT]
  ·have e1:=WO hx;subst e1;obtain⟨z,z1,z2⟩:=q3 E.P μ φ w _ _ (an hR x).1 (an hR y).1;exact⟨z,by simp[execOp,resolve,invoke,builtin,Builtin.max_,z1],.pv z2,by simp⟩
 ·rename_i u1 u2 u3 u4 hu;obtain⟨x,y,z,t,hx,rfl,rfl,rfl,rfl⟩:=four hu;obtain⟨q,q1,q2,q3⟩:=Wl h;refine read q2 (fun f2 m2 hf hm R' k'=>?_) (fun w0 μ φ a w hR=>?_)
  ·grind [cT]
  ·have e1:args= #[x,y,z,t]:=alj (by omega);subst e1;obtain⟨v1,v2,v3,z1,z2,z3,z4⟩:=q3 E.P μ φ w _ _ _ _ (an hR x).1 (an hR y).1 (an hR z).1 (an hR t).1;exact⟨v3,by simp[execOp,resolve,invoke,builtin,Builtin.max_,z1,z2,z3],.pv z4,by simp⟩
 ·rename_i _ g;refine known g _ h (fun w0 μ φ a w hR=>⟨args.map a.eval,?_,(lP hR).1,(lP hR).2,fun id av=>rq hR av⟩) (fun f2 m2 hf R' k'=>?_)
  ·simp[execOp,resolve,Deferred.ofValue,invoke,Act.eval]
  ·simp only[cT,rX f2 hf]
 ·rename_i _ tm;split at h
  ·rename_i g caps qd;refine known (wB g) _ h (fun w0 μ φ a w hR=>?_) (fun f2 m2 hf R' k'=>?_)
   ·have h1:=(an hR (.tmp tm)).1;rw[qd]at h1;have hlc:=(an hR (.tmp tm)).2;rw[qd]at hlc;generalize hy:a.eval (.tmp tm)=y at h1;cases h1 with
    | @fn _ _ xs c1 c2=>
     obtain⟨o1,o2⟩:=lP hR (args:=args);obtain⟨b1,b2⟩:=SF (g:=g) (by simp) o2 c1 c2;refine⟨A4 g xs (args.map a.eval),?_,b1,b2,fun id av=>?_⟩
     ·cases e:Nat.blt g EC with
      |true=>rw[rK e]at hy;simp[execOp,resolve,Deferred.ofValue,invoke,hy,wB,A4,e]
      |false=>rw[Lh e]at hy;simp[execOp,resolve,Deferred.ofValue,invoke,hy,wB,A4,e]
     ·obtain⟨v,hv,hh⟩:=cW.1 av;rcases WL hv with hv|hv
      ·exact rq hR (cW.2 ⟨v,hv,hh⟩)
      ·exact hlc id (by simp only[V.has];exact cW.2 ⟨v,hv,hh⟩)
   ·have:=hf (.tmp tm) (by simp[Op.operands,Call.operands]);simp only[cT,rX f2 hf,this,qd]
  ·rename_i g caps qd;refine known (wB g) _ h (fun w0 μ φ a w hR=>?_) (fun f2 m2 hf R' k'=>?_)
   ·have h1:=(an hR (.tmp tm)).1;rw[qd]at h1;generalize hy:a.eval (.tmp tm)=y at h1;cases h1 with
    |pv h1=>cases h1 with
     | @fn _ _ xs c1 c2=>
      obtain⟨o1,o2⟩:=lP hR (args:=args);obtain⟨b1,b2⟩:=SF (g:=g) (caps:=caps.map .pv) (xs:=xs) (by simp) o2 (by simpa using c1) (fun i v x hv hx=>by simp only[IT,ah2]at hv;obtain⟨q,hq,rfl⟩:=hv;exact .pv (c2 _ q x hq hx));refine⟨A4 g xs (args.map a.eval),?_,b1,b2,fun id av=>?_⟩
      ·cases e:Nat.blt g EC with
       |true=>rw[rK e]at hy;simp[execOp,resolve,Deferred.ofValue,invoke,hy,wB,A4,e]
       |false=>rw[Lh e]at hy;simp[execOp,resolve,Deferred.ofValue,invoke,hy,wB,A4,e]
      ·obtain⟨v,hv,hh⟩:=cW.1 av;rcases WL hv with hv|hv
       ·exact rq hR (cW.2 ⟨v,hv,hh⟩)
       ·obtain⟨q,_,rfl⟩:=ajJ.1 hv;cases hh
   ·have:=hf (.tmp tm) (by simp[Op.operands,Call.operands]);simp only[cT,rX f2 hf,this,qd]
  ·rename_i id qd;split at h
   ·cases h
   ·rename_i zq;refine .inr ⟨by simpa using zq,And.intro (fun c x y h=>by cases h) fun rd w0 μ φ a w K Q hY hR hK=>?_⟩;have h1:=(an hR (.tmp tm)).1;rw[qd]at h1;generalize hy:a.eval (.tmp tm)=y at h1;cases h1 with
    | @yl _ g hg=>
     obtain⟨o1,o2⟩:=lP hR (args:=args);obtain⟨fn,tmps,assign,body,y1,y2⟩:=hY _ _ _ _ _ _ _ _ h μ φ (ax E.fn.ntmps w0 a) w (args.map a.eval) hR.toaz hR.kZ (fun t ht=>by unfold ax;rw[IN (by omega)]) o1 o2 (fun id av=>rq hR av) g hg;refine⟨fun _ _=>trivial,?_⟩;rw[Oper.semAt_eq _ _ _ (fun c h=>by cases h)];have pZ:(execOp a.eval ⟨dst,.call ⟨.value (.tmp tm),args,argTypes⟩,type,pos,after,guard⟩).run E.P w=.ok (.round g fn tmps assign body) w:=by simp only[execOp,resolve,Deferred.ofValue,hy];simpa[invoke]using y1
     rw[pZ,Oper.uponIn_round];refine⟨fun h=>(by cases h),(FR.ZV y2).mono ?_⟩;rintro e w' ⟨v,f',m',y,μ',φ',h0,rfl,_,h1,h2,h3,h4⟩;exact hK v f' m' y w' μ' φ' h0 h1 h2 h3 h4
  ·cases h
 ·cases h
theorem Lz{a b:Option R}(h:agree a b=some r):a=some r∧b=some r:=by
 unfold agree at h;split at h
 ·rename_i e;exact⟨h,by rw[←e];exact h⟩
 ·cases h
theorem Up{op:BinOp}{t:TypeId}{es:List PV}{k:Bool→Option R}(h:Og E op t es k=some r):∃e,E.P.underlying t=some (.slice e)∧((op=.eql∧∀b,(b=true→es=[])→k b=some r)∨(op=.neq∧∀b,(b=false→es=[])→k b=some r)):=by
 unfold Og at h;split at h
 ·rename_i e hu;refine⟨e,hu,.inl ⟨rfl,fun b hb=>?_⟩⟩;split at h
  ·obtain⟨h1,h2⟩:=Lz h;cases b<;>assumption
  ·rename_i cY;cases b with
   |true=>exact absurd (by simp[hb rfl]) cY
   |false=>exact h
 ·rename_i e hu;refine⟨e,hu,.inr ⟨rfl,fun b hb=>?_⟩⟩;split at h
  ·obtain⟨h1,h2⟩:=Lz h;cases b<;>assumption
  ·rename_i cY;cases b with
   |false=>exact absurd (by simp[hb rfl]) cY
   |true=>exact h
 ·cases h
theorem ZX{op:BinOp}{t:TypeId}{x y:Operand}{ty type:TypeId}{pos:String}{s:Nat}{es:List PV}(h:cT E draw site ⟨dst,.binOp op t x y ty,type,pos,after,guard⟩ f m k=some r)(hx:bL E f x=.pv (.rs s es))(hy:bL E f y=.iK):draw=false∧Ft E ⟨dst,.binOp op t x y ty,type,pos,after,guard⟩ f m k r:=by
 simp only[cT,hx,hy]at h;split at h
 ·cases h
 ·rename_i hd;refine⟨by simpa using hd,And.intro (fun c x y h=>by cases h) fun rd w0 μ φ a w K Q _ hR hK=>Ce (fun c h=>by cases h) ?_⟩;obtain⟨e,hu,hk⟩:=Up h;have h1:=(an hR x).1;have h2:=(an hR y).1;rw[hx]at h1;rw[hy]at h2;generalize hvx:a.eval x=vx at h1;generalize ZK:a.eval y=vy at h2;have Ej:∃(ad:Option Addr)(n c:Nat),vx=.slice ad n c∧(ad=none→es=[]):=by
   cases h1 with
   |pv h1=>
    cases h1 with
    |lk=>exact⟨none,0,0,rfl,fun _=>rfl⟩
    |G9 _=>exact⟨_,_,_,rfl,fun _=>rfl⟩
    |rs _ _ _ _ _ _ _=>exact⟨_,_,_,rfl,fun h=>by cases h⟩
  obtain⟨ad,n,c,rfl,Ju⟩:=Ej;cases h2;have go:∀b,(binOp op t (.slice ad n c) (.slice none 0 0)).run E.P w=.ok (.bool b) w→k (.pv (.bool b)) f m [(true,0)]=some r→(⟨dst,.binOp op t x y ty,type,pos,after,guard⟩:Oper).wp E.P a w K Q:=fun b hb hkb=>by refine fZ (y:=.bool b) (w':=w) ?_ (hK _ _ _ _ _ _ _ hkb hR.toaz hR.kZ (.pv .bool) (by simp));simp only[execOp,eqGuard_at_slice,Sem.run_bind,Sem.run_pure,hvx,ZK,Result.andThen_ok];rw[hb];rfl
  rcases hk with⟨rfl,hk⟩|⟨rfl,hk⟩
  ·refine go ad.isNone (Lib.run_eql_slice_nil w t e ad n c 0 0 hu) (hk _ fun hb=>Ju (by simpa using hb))
  ·refine go (!ad.isNone) ?_ (hk _ fun hb=>Ju (by simpa using hb));simp only[binOp];simp[Op.equal,Op.maxDepth,Lib.run_equalIn_slice_nil w 9999 t e ad n c 0 0 hu]
theorem WQ(h:cT E draw site o f m k=some r)(hi:Ol o.op=true):draw=false∧Ft E o f m k r:=by
 obtain⟨dst,op,type,pos,after,guard⟩:=o;unfold cT at h;cases op<;>first|(cases hi;done)|skip
 case range t x=>
  simp only at h;split at h
  ·cases h
  ·rename_i hd;refine⟨by simpa using hd,And.intro (fun c x y h=>by cases h) fun rd w0 μ φ a w K Q _ hR hK=>Ce (fun c h=>by cases h) ?_⟩;obtain⟨f',m',hk,hl,hs⟩:=Uf h;obtain⟨w',y',μ',φ',r1,r2,r3,r4⟩:=hs _ _ _ _ _ _ _ hR.toaz hR.kZ (an hR x).1;exact fZ (y:=y') (w':=w') (by simp[execOp,r1]) (hK _ _ _ _ _ _ _ hk r2 r3 r4 fun id av=>by have:=No av;subst this;exact hl)
 case next x s=>
  simp only at h;split at h
  ·cases h
  ·rename_i hd;simp only[ajA,amD,akQ]at hd;obtain⟨hd,rfl⟩:=hd;refine⟨hd,And.intro (fun c x y h=>by cases h) fun rd w0 μ φ a w K Q _ hR hK=>Ce (fun c h=>by cases h) ?_⟩;obtain⟨v,m',y',w',hk,hv,hl,r1,r2,r3⟩:=Wx h _ _ _ _ _ _ type hR.toaz (an hR x).1;exact fZ (y:=y') (w':=w') (by simp[execOp,r1]) (hK _ _ _ _ _ _ _ hk r2 (hR.kZ.ni (fun _ _ h=>h) hl) r3 fun id av=>by rw[hv id]at av;cases av)
 case entry x=>
  simp only at h;split at h
  ·cases h
  ·rename_i hd;refine⟨by simpa using hd,And.intro (fun c x y h=>by cases h) fun rd w0 μ φ a w K Q _ hR hK=>Ce (fun c h=>by cases h) ?_⟩;obtain⟨v,m',y',hk,hv,hl,r1,r3,r2⟩:=Ug h _ _ _ _ _ _ _ hR.toaz (an hR x).1;exact fZ (y:=y') (w':=w) (by simp[execOp,r1]) (hK _ _ _ _ _ _ _ hk r3 (hR.kZ.ni (fun _ _ h=>h) hl) r2 fun id av=>by rw[hv id]at av;cases av)
theorem ZY(hE:kv E)(h:cT E draw site o f m k=some r):(∃v f' m' ft,k v f' m' ft=some r∧vB E draw site o f m v f' m' ft)∨(draw=false∧Ft E o f m k r):=by
 by_cases hc:∃c,o.op=.call c
 ·obtain⟨dst,op,type,pos,after,guard⟩:=o;obtain⟨⟨callee,args,argTypes⟩,hc⟩:=hc;simp only at hc;subst hc;exact WN hE h
 ·by_cases hb:∃op t x y ty s es,o.op=.binOp op t x y ty∧bL E f x=.pv (.rs s es)∧bL E f y=.iK
  ·obtain⟨op,t,x,y,ty,s,es,h1,h2,h3⟩:=hb;obtain⟨dst,op',type,pos,after,guard⟩:=o;simp only at h1;subst h1;exact .inr (ZX h h2 h3)
  ·cases hi:Ol o.op with
   |true=>exact .inr (WQ h hi)
   |false=>exact .inl (ZW hE h (fun c hcc=>hc ⟨c,hcc⟩) (fun op t x y ty s es h1 h2 h3=>hb ⟨op,t,x,y,ty,s,es,h1,h2,h3⟩) hi)
theorem Rel.zS{nt:Nat}{P:Program}{G:Nat→Option (List PV)}{w0:bI}{μ:Ro}{φ:Nat→aH}{f:Fr}{m:Mem}{a:Act}{w:World}(h:Rel P G nt w0 μ φ f m a w){K:Ro}(hK:∀b o,K b=some o→μ b=some o)(hK0:∀b o,w0.dJ b=some o→K b=some o):Rel P G nt {w0 with dJ:=K} μ φ f m a w:={toaz:=h.toaz.zS hK,size:=h.size,defers:=h.defers,mY:=fun b o hb=>hK0 b o (h.mY b o hb),fr:=h.fr,live:=h.live}
theorem Rel.Fc{nt:Nat}{P:Program}{G:Nat→Option (List PV)}{w0:bI}{μ:Ro}{φ:Nat→aH}{f:Fr}{m:Mem}{a:Act}{w:World}{K:Ro}(h:Rel P G nt {w0 with dJ:=K} μ φ f m a w)(hK:∀b o,w0.dJ b=some o→K b=some o)(ho:∀b o,w0.mY b=some o→w0.dJ b=some o):Rel P G nt w0 μ φ f m a w:={toaz:=h.toaz.Fc hK,size:=h.size,defers:=h.defers,mY:=ho,fr:=h.fr,live:=h.live}
abbrev LA(μ μ':Ro):Prop:=∀b o,μ b=some o→μ' b=some o
theorem OV(h:cT E draw site o f m k=some r):∀c,o.op≠.defer c:=by intro c hc;obtain⟨dst,op,type,pos,after,guard⟩:=o;simp only at hc;subst hc;simp[cT]at h
theorem vB.zV{f':Fr}{ft:bG}(h:vB E draw site o f m v f' m' ft)(hd:∀c,o.op≠.defer c)(rd:Option Nat)(w0:bI)(μ:Ro)(φ:Nat→aH)(a:Act)(w:World)(K:Act→World→Prop)(Q:Exit→Act→World→Prop)(hR:Rel E.P E.aM E.fn.ntmps w0 μ φ f m a w)(hK:∀y w' μ' φ',LA μ μ'→az E.P E.aM w0 μ' φ' m' w'→cu E.P μ' φ' m' f' (ax E.fn.ntmps w0 a)→ah E.P μ' φ' v y→(∀id,v.has id=true→(m' id).isSome=true)→K (a.put o.dst y) w'):o.wpIn (FR rd) 0 E.P a w K Q:=Ce hd (h.sound {w0 with dJ:=μ} μ φ a w K Q (hR.zS (fun _ _ h=>h) hR.dJ) fun y w' μ' φ' h1 h2 h3 h4=>hK y w' μ' φ' h1.dJ (h1.Fc hR.dJ) h2 h3 h4)
theorem Ft.zV(h:Ft E o f m k r)(rd:Option Nat)(w0:bI)(μ:Ro)(φ:Nat→aH)(a:Act)(w:World)(K:Act→World→Prop)(Q:Exit→Act→World→Prop)(hY:ur E.P E.aM E.fn.ntmps E.yl w0)(hR:Rel E.P E.aM E.fn.ntmps w0 μ φ f m a w)(hK:∀v f' m' y w' μ' φ',k v f' m' [(true,0)]=some r→LA μ μ'→az E.P E.aM w0 μ' φ' m' w'→cu E.P μ' φ' m' f' (ax E.fn.ntmps w0 a)→ah E.P μ' φ' v y→(∀id,v.has id=true→(m' id).isSome=true)→K (a.put o.dst y) w'):o.wpIn (FR rd) 0 E.P a w K Q:=h.2 rd {w0 with dJ:=μ} μ φ a w K Q (hY.zS hR.dJ) (hR.zS (fun _ _ h=>h) hR.dJ) fun v f' m' y w' μ' φ' h0 h1 h2 h3 h4=>hK v f' m' y w' μ' φ' h0 h1.dJ (h1.Fc hR.dJ) h2 h3 h4
end
section
variable {R:Type} {E:Env}
variable{site:Nat}{o:Oper}{k:V→Fr→Mem→bG→Option R}
theorem OW{f:Fr}{m:Mem}{sp:Sp}{r:R}(hs:zJ E site o f m=some sp)(h:xsp E site sp f m k=some r):∃v wr,k v (kf (sp.info site).1 f) (uf wr (km (sp.info site).1 m)) (sp.info site).2=some r∧(∀x∈wr,(true,x.1)∈(sp.info site).2)∧(∀x∈(sp.info site).1,(true,x.2)∈(sp.info site).2)∧(∀(f2:Fr)(m2:Mem)(R':Type)(k':V→Fr→Mem→bG→Option R'),xsp E site sp f2 m2 k'=k' v (kf (sp.info site).1 f2) (uf wr (km (sp.info site).1 m2)) (sp.info site).2)∧(∀c,o.op≠.defer c)∧vB E false site o f m v (kf (sp.info site).1 f) (uf wr (km (sp.info site).1 m)) (sp.info site).2:=by
 obtain⟨dst,op,type,pos,after,guard⟩:=o;unfold zJ at hs;cases op;case store t a x=>
  simp only at hs;split at hs
  ·rename_i id i off ha;split at hs
   ·rename_i s et es hm;split at hs
    ·rename_i cs hc;split at hs
     ·rename_i ps j id2 ht;split at hs
      ·rename_i lq;simp only[AT]at hs;subst hs;simp only[T1,I5,ajF]at lq;obtain⟨⟨hb,h0⟩,cY⟩:=lq;have cY:id2≠id:=fun e=>by subst e;simp[amQ]at cY
       unfold xsp at h;obtain⟨e,he,h⟩:=BY.1 h;refine⟨_,_,h,by simp[Sp.info],by simp[Sp.info],fun f2 m2 R' k'=>by simp only[xsp,he,ajH];rfl,by simp,⟨fun h=>(nomatch h),fun _ h=>absurd (h (true,id) (by simp[Sp.info])) (by simp),fun w0 μ φ ac w K Q hR hK=>?_⟩⟩;obtain⟨w',φ',u1,u2,u3⟩:=WB hm hc ht hb h0 cY he hR.toaz hR.kZ (by have:=(an hR a).1;rw[ha]at this;exact this) (an hR x).1;exact xg (by simp[execOp,u1]) (hK undef w' μ φ' u2 u3 .top (by simp))
      ·cases hs
     ·cases hs
    ·cases hs
   ·cases hs
  ·cases hs
 case buildSlice t len parts=>
  simp only at hs;split at hs
  ·rename_i e v hu hp;split at hs
   ·rename_i cs hc;split at hs
    ·rename_i ps j id2 ht ad1;split at hs
     ·rename_i p Hi;split at hs
      ·rename_i lq;simp only[AT]at hs;subst hs;simp only[T1,I5]at lq;obtain⟨⟨⟨hlen,eF⟩,ZZ⟩,hz⟩:=lq;have hlen:=No hlen;subst hlen;refine⟨_,_,h,by simp[Sp.info],by simp[Sp.info],fun f2 m2 R' k'=>rfl,by simp,⟨fun h=>(nomatch h),fun h _=>by(simp[fx]at h),fun w0 μ φ ac w K Q hR hK=>?_⟩⟩;obtain⟨x,hx,hxv⟩:∃x,parts= #[(0,x)]∧bL E f x=v:=by
        obtain⟨l⟩:=parts;match l,hp with
        |[(a,x)],hp=>simp only[ajy,akv,aku,ado,am7]at hp;exact⟨x,by rw[hp.1],hp.2⟩
       subst hx;obtain⟨y,w',φ',u1,u2,u3,u4⟩:=Uj hu hc ht ad1 Hi eF ZZ hz hR.toaz hR.kZ (by have:=(an hR x).1;rw[hxv]at this;exact this);exact fZ (y:=y) (w':=w') (by
        have:(#[((0:Nat),x)].map fun(x:Nat×Operand)=>(x.1,ac.eval x.2))= #[(0,ac.eval x)]:=by simp
        simp only[execOp,Sem.run_bind,this,u1,Result.andThen_ok,Sem.run_pure]) (hK y w' μ φ' u2 u3 u4 fun j hj=>by have hj:=No hj;subst hj;simp[uf])
      ·cases hs
     ·cases hs
    ·cases hs
   ·cases hs
  ·cases hs
 case call c=>
  obtain⟨callee,args,argTypes⟩:=c;simp only at hs;split at hs
  ·rename_i id x t t' ha Un;split at hs
   ·rename_i e s et es hu hm;split at hs
    ·rename_i lq;simp only[T1,I5]at lq;obtain⟨⟨⟨⟨⟨h1,h2⟩,h3⟩,h4⟩,h5⟩,h6⟩:=lq;subst h3;have h1:et=e:=by simpa using h1
     subst h1;have rX:∃y z,args= #[y,z]∧bL E f y=.os id∧bL E f z=x:=by
      obtain⟨l⟩:=args;rcases l with _|⟨y,_|⟨z,_|⟨u,l⟩⟩⟩
      ·simp at ha
      ·simp at ha
      ·simp only[ajy,akv,aku,am7]at ha;exact⟨y,z,rfl,ha.1,ha.2⟩
      ·simp at ha
     obtain⟨y,z,rfl,hy,hz⟩:=rX;have Z0:argTypes= #[t',t']:=alj (by simpa using Un);subst Z0;have main:∀(new:List PV)(src:Option Nat)(rd:bG),sp=.app id s et es new src rd→((∃id2,src=some id2∧id2≠id∧x=.os id2∧m id2=some (.nest s et new))∨(src=none∧eX m s x=some (new,rd)))→∃v wr,k v (kf (sp.info site).1 f) (uf wr (km (sp.info site).1 m)) (sp.info site).2=some r∧(∀x∈wr,(true,x.1)∈(sp.info site).2)∧(∀x∈(sp.info site).1,(true,x.2)∈(sp.info site).2)∧(∀(f2:Fr)(m2:Mem)(R':Type)(k':V→Fr→Mem→bG→Option R'),xsp E site sp f2 m2 k'=k' v (kf (sp.info site).1 f2) (uf wr (km (sp.info site).1 m2)) (sp.info site).2)∧(∀c,(⟨dst,.call ⟨.builtin .append,#[y,z],#[t',t']⟩,type,pos,after,guard⟩:Oper).op≠.defer c)∧vB E false site ⟨dst,.call ⟨.builtin .append,#[y,z],#[t',t']⟩,type,pos,after,guard⟩ f m v (kf (sp.info site).1 f) (uf wr (km (sp.info site).1 m)) (sp.info site).2:=by
      intro new src rd ug zR;subst ug;simp only[xsp]at h;split at h
      ·rename_i e9;have hw:(true,id)∈(Sp.info site (.app id s et es new src rd)).2:=by cases src<;>simp[Sp.info]
       have hkm:uf [(id,.nest s et (es++new))] (km (Sp.info site (.app id s et es new src rd)).1 m)=aq (bq (bM id (SD src m)) id) id (.nest s et (es++new)):=by cases src<;>rfl
       have hkf:kf (Sp.info site (.app id s et es new src rd)).1 f=fi id (kfS src f):=by cases src<;>rfl
       refine⟨_,_,h,fun q hq=>(by simp only[aj4]at hq;subst hq;exact hw),fun q hq=>?_,fun f2 m2 R' k'=>by simp only[xsp];rw[BK e9],by simp,⟨fun h=>(nomatch h),fun _ h=>absurd (h (true,id) hw) (by simp),fun w0 μ φ ac w K Q hR hK=>?_⟩⟩
       ·cases src<;>simp only[Sp.info,ah4,akR,amj]at hq⊢
        ·subst hq;simp
        ·rcases hq with rfl|rfl<;>simp
       ·obtain⟨w',y',φ',u1,u2,u3,u4⟩:=Um (ty:=type) hu hm h2 h4 h5 h6 e9 zR hR.toaz hR.kZ (by have:=(an hR y).1;rw[hy]at this;exact this) (by have:=(an hR z).1;rw[hz]at this;exact this);exact fZ (y:=y') (w':=w') (by simp[execOp,resolve,invoke,builtin,u1]) (hK y' w' μ φ' (by rw[hkm];exact u2) (by rw[hkm,hkf];exact u3) u4 fun j hj=>by have hj:=No hj;subst hj;simp[uf])
      ·cases h
     split at hs
     ·rename_i sZ;split at hs
      ·rename_i s' GZ new Zf;split at hs
       ·rename_i Wf;simp only[T1,I5]at Wf;obtain⟨⟨c1,c2⟩,c3⟩:=Wf;have c1:=No c1;subst c1;subst c2;simp only[AT]at hs;exact main new (some sZ) [] hs.symm (.inl ⟨sZ,rfl,fun e=>by subst e;simp[amQ]at c3,rfl,Zf⟩)
       ·cases hs
      ·split at hs
       ·rename_i new rd Ek;split at hs
        ·cases hs
        ·simp only[AT]at hs;exact main new none rd hs.symm (.inr ⟨rfl,Ek⟩)
       ·cases hs
     ·split at hs
      ·rename_i new rd Ek;split at hs
       ·cases hs
       ·simp only[AT]at hs;exact main new none rd hs.symm (.inr ⟨rfl,Ek⟩)
      ·cases hs
    ·cases hs
   ·cases hs
  ·cases hs
 case mapUpdate t x key v=>
  simp only at hs;split at hs
  ·rename_i kt et id id2 hu hx hv;split at hs
   ·rename_i wL e es s e' rs kp h1 h2 hk;split at hs
    ·rename_i lq;simp only[AT]at hs;subst hs;simp only[T1,I5]at lq;obtain⟨⟨hkt,hee⟩,_⟩:=lq;subst hkt;subst hee;refine⟨_,_,h,by simp[Sp.info],by simp[Sp.info],fun f2 m2 R' k'=>rfl,by simp,⟨fun h=>(nomatch h),fun h _=>by(simp[fx]at h),fun w0 μ φ ac w K Q hR hK=>?_⟩⟩;obtain⟨w',φ',u1,u2,u3⟩:=Ul hu h1 h2 hk hR.toaz hR.kZ (by have:=(an hR x).1;rw[hx]at this;exact this) (an hR key).1 (by have:=(an hR v).1;rw[hv]at this;exact this);exact xg (by simp[execOp,u1]) (hK undef w' μ φ' u2 u3 .top (by simp))
    ·cases hs
   ·cases hs
  ·cases hs
 all_goals (cases hs)
theorem Jw(hE:kv E){draw:Bool}{f:Fr}{m:Mem}{r:R}(h:La E draw site o f m k=some r):(∃v f' m' ft,k v f' m' ft=some r∧vB E draw site o f m v f' m' ft)∨(draw=false∧Ft E o f m k r):=by
 unfold La at h;split at h
 ·rename_i sp ug;cases draw with
  |true=>cases ug
  |false=>
   simp only[cond]at ug;cases hn:E.BU site with
   |false=>rw[hn]at ug;cases ug
   |true=>rw[hn]at ug;obtain⟨v,wr,h1,_,_,_,_,h2⟩:=OW ug h;exact .inl ⟨_,_,_,_,h1,h2⟩
 ·exact ZY hE h
theorem Cg{draw:Bool}{f:Fr}{m:Mem}{r:R}(h:La E draw site o f m k=some r):∀c,o.op≠.defer c:=by
 unfold La at h;split at h
 ·rename_i sp ug;cases draw with
  |true=>cases ug
  |false=>
   simp only[cond]at ug;cases hn:E.BU site with
   |false=>rw[hn]at ug;cases ug
   |true=>rw[hn]at ug;obtain⟨v,wr,h1,_,_,_,h3,h2⟩:=OW ug h;exact h3
 ·exact OV h
end
end Go.Ab
