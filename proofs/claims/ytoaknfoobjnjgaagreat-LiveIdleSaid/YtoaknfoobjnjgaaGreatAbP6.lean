import Derived.Test.YtoaknfoobjnjgaaGreatAbP5
import Derived.Lib.SliceRun
import Derived.Laws.IdiomStrings
set_option linter.all false
namespace Go.Ab
open Go.RowKit (Below)
section
variable {R:Type} {E:Env}
variable{t:TypeId}
theorem J9{P:Program}{w:World}{ms:Array (String×TypeId)}(hu:P.underlying t=some (.interface ms)){b:Bool}{x:Value}{μ:Ro}(hx:au P μ (.Uu b) x):(Op.equalIn 10000 t x .nilIface).run P w=.ok (!b) w:=by show(Op.equalIn (9999+1) t x .nilIface).run P w=.ok (!b) w;cases hx<;>(unfold Op.equalIn;simp only[Sem.run_bind,run_underlying hu,Result.andThen_ok];rfl)
theorem Fa{P:Program}{w:World}{op:BinOp}{ox:Operand}{c:Value}{b:Bool}{x:Value}{μ:Ro}(hx:au P μ (.Uu b) x):(eqGuard op t ox (.const c) x .nilIface).run P w=.ok () w:=by
 cases hx
 ·rw[eqGuard_nil_constR];rfl
 ·rename_i d z;have:eqGuard op t ox (.const c) (.iface d z) .nilIface=pure ():=by cases op<;>rfl
  rw[this];rfl
theorem XN{op:BinOp}{oy:Operand}{a b:V}{k:PV→Option R}{r:R}(h:Nq E op t oy a b k=some r):∃q,(∀(R':Type)(k':PV→Option R'),Nq E op t oy a b k'=k' q)∧k q=some r∧∀(μ:Ro)(φ:Nat→aK)(w:World)(ox:Operand)(x y:Value),(Gs oy=true→y=.nilIface)→aq E.P μ φ a x→aq E.P μ φ b y→∃z,(vo op t ox oy x y).run E.P w=.ok z w∧au E.P μ q z:=by
 unfold Nq at h⊢;cases hn:Gs oy with
 |false=>rw[hn]at h;obtain⟨q,q1,q2,q3⟩:=acN h;exact⟨q,fun R' k'=>q1 R' k',q2,fun μ φ w ox x y _ hx hy=>q3 μ φ w ox oy x y hx hy⟩
 |true=>
  rw[hn]at h;simp only[cond]at h⊢;have hoy:oy=.const .nilIface:=by unfold Gs at hn;grind
  subst hoy;unfold W6 at h⊢;split at h
  ·rename_i c;split at h
   ·rename_i ms hu;refine⟨_,fun R' k'=>by rfl,h,fun μ φ w ox x y hy hx _=>?_⟩;have:=hy trivial;subst this;cases hx with
    |pv hx=>exact⟨_,bZ (Fa hx) (jC (by cases hx<;>rfl) (J9 hu hx)),.bool⟩
   ·rename_i ms hu;refine⟨_,fun R' k'=>by rfl,h,fun μ φ w ox x y hy hx _=>?_⟩;have:=hy trivial;subst this;cases hx with
    |pv hx=>refine⟨_,bZ (Fa hx) (jD (by cases hx<;>rfl) (J9 hu hx)),?_⟩;rw[aqw];exact .bool
   ·cases h
  ·cases h
theorem Ka{P:Program}{μ:Ro}:∀{es:List PV}{b:Bytes}{xs:List Value},DU es=some b→Cells P μ 1 es xs→b.length=es.length∧xs=b.map fun c=>.int .u8 (c.toNat:Int)
 |[],b,xs,h,hC=>by simp only[DU,tb]at h;subst h;have:=hC.len;simp_all
 |e::es,b,xs,h,hC=>by
  unfold DU at h;split at h
  ·rename_i he;cases he
  ·rename_i n r he;simp only[aon]at he;obtain⟨rfl,rfl⟩:=he;obtain⟨b',j4,rfl⟩:=ae0.1 h;cases xs with
   |nil=>have:=hC.len;simp at this
   |cons x xs=>
    have hx:x=.int .u8 n∧(Lit.int .u8 n).wf=true:=by
     have:=hC.rep 0 _ 0 _ x rfl rfl rfl;cases this with
     |int hw=>exact⟨rfl,hw⟩
    obtain⟨rfl,hw⟩:=hx;have hC':Cells P μ 1 es xs:=⟨by have:=hC.len;simp at this⊢;omega,fun i e hi=>hC.each (i+1) e (by simpa using hi),fun i e j p y hi hj hy=>hC.rep (i+1) e j p y (by simpa using hi) hj (by grind),fun i y hy=>hC.one (i+1) y (by simpa using hy)⟩;obtain⟨h1,h2⟩:=Ka j4 hC';refine⟨by simp[h1],?_⟩;rw[anB,←h2];rw[xl]at hw;grind [IntKind.min,IntKind.max,IntKind.signed,IntKind.bits,UInt8.ofNat,UInt8.toNat_ofNat']
  ·cases h
theorem U5{s d:TypeId}{a:V}{m:Mem}{k:PV→bx→Option R}{r:R}(h:DV E s d a m k=some r):∃q ft,(∀m2:Mem,(∀x∈ft,m2 x.2=m x.2)→∀(R':Type)(k':PV→bx→Option R'),DV E s d a m2 k'=k' q ft)∧k q ft=some r∧(∀x∈ft,x.1=false)∧∀(G:Nat→Option (List PV))(w0:bl)(μ:Ro)(φ:Nat→aK)(w:World)(x:Value),aG E.P G w0 μ φ m w→aq E.P μ φ a x→∃z,(convert s d x).run E.P w=.ok z w∧au E.P μ q z:=by
 unfold DV at h;split at h
 ·rename_i e hs hd;split at h
  ·rename_i es ft hu GY;obtain⟨b,hb,hk⟩:=AI.1 h;obtain⟨e1,e2,e3⟩:=qe GY;refine⟨.str b,ft,fun m2 cQ R' k'=>by simp_all[DV,anC],hk,e2,fun G w0 μ φ w x hM hx=>?_⟩;have AO:=e3 _ _ _ _ _ _ _ hM hx;cases AO with
   |none he=>subst he;simp only[DU,tb]at hb;subst hb;exact⟨_,by simp[convert,run_underlying hs,run_underlying hd,run_underlying hu,Conv.bytesToString];rfl,.str (by decide)⟩
   | @some a c xs hC hc hl hm=>obtain⟨h1,h2⟩:=Ka hb hC;subst h2;rw[←h1];refine⟨_,run_convert_bytes_back w s d e a c b hs hu hd fun j hj=>hc j _ (by grind),.str (by omega)⟩
  ·cases h
 ·rename_i DN;obtain⟨q,q1,q2,q3⟩:=Xu h;refine⟨q,[],fun m2 _ R' k'=>?_,q2,by simp,fun G w0 μ φ w x _ hx=>q3 μ φ w x hx⟩;simp_all[DV,absurd]
end
structure xv(E:Env)(draw:Bool)(site:Nat)(o:Oper)(f:Fr)(m:Mem)(v:V)(f':Fr)(m':Mem)(ft:bx):Prop where
 drawn:draw=true→f'=f∧∃wr:List (Nat×bI),m'=uE wr m∧(∀x∈wr,(true,x.1)∈ft)∧∀(f2:Fr)(m2:Mem),(∀x∈o.op.operands,bF E f2 x=bF E f x)→(∀x∈ft,m2 x.2=m x.2)→∀(R':Type)(k':V→Fr→Mem→bx→Option R'),cj E true site o f2 m2 k'=k' v f2 (uE wr m2) ft
 same:fI o=true→(∀x∈ft,x.1=false)→f'=f∧m'=m
 sound:∀(w0:bl)(μ:Ro)(φ:Nat→aK)(a:Act)(w:World)(K:Act→World→Prop)(Q:Exit→Act→World→Prop),Rel E.P E.aF E.fn.ntmps w0 μ φ f m a w→(∀y w' μ' φ',aG E.P E.aF w0 μ' φ' m' w'→b9 E.P μ' φ' m' f' (bV E.fn.ntmps w0 a)→aq E.P μ' φ' v y→(∀id,v.has id=true→(m' id).isSome=true)→K (a.put o.dst y) w')→o.wp E.P a w K Q
def FR(rd:Option Nat):Fence:={Fence.wide with round:=rd}
variable{rd:Option Nat}{P:Program}
theorem FR.acT{m m':Machine}:StepsIn (Machine.fenced P (FR rd)) P m m'↔Steps P m m':=stepsIn_wide (P:=P)
variable{args:Array Value}{w:World}{R:Ending→World→Prop}
theorem FR.SQ{n:Nat}{f:FuncId}(h:Calls P f args w R):CallsIn (FR rd) n P f args w R:=(callsIn_wide (n:=n)).2 h
theorem FR.afn{n:Nat}{row:String}{R:Value→World→Prop}(h:Rows P row args w R):RowsIn (FR rd) n P row args w R:=fun c cs _=>let⟨v,w',r,s⟩:=h c cs;⟨v,w',r,FR.acT.2 s⟩
theorem FR.acU{n n':Nat}{l:Nat}{f:FuncId}{tmps:Array Value}{assign body:Code}(h:RoundIn Fence.wide n P l f tmps assign body w R):RoundIn (FR rd) n' P l f tmps assign body w R:=⟨trivial,fun c cs _=>h.2 c cs (room_wide _)⟩
theorem Eb{o:Oper}{a:Act}{K:Act→World→Prop}{Q:Exit→Act→World→Prop}(hd:∀c,o.op≠.defer c)(h:o.wp P a w K Q):o.wpIn (FR rd) 0 P a w K Q:=by
 refine⟨fun _ _=>trivial,?_⟩;rw[Oper.semAt_eq _ _ _ hd];unfold Oper.wp at h;cases hr:(execOp a.eval o).run P w with
 |ok nx w'=>
  rw[hr]at h;cases nx with
  |value v=>exact h
  |skip=>exact h
  |defer d=>exact h
  |enter f args=>exact⟨fun h=>(by cases h),FR.SQ h⟩
  |row row args=>exact⟨fun h=>(by cases h),FR.afn h⟩
  |_=>exact h.elim
 |halt h' w'=>
  rw[hr]at h;cases h' with
  |panic v=>exact h
  |_=>exact h.elim
def Hj{R:Type}(E:Env)(o:Oper)(f:Fr)(m:Mem)(k:V→Fr→Mem→bx→Option R)(r:R):Prop:=
 (∀c x y,o.op≠.pick c x y)∧
 ∀(rd:Option Nat)(w0:bl)(μ:Ro)(φ:Nat→aK)(a:Act)(w:World)(K:Act→World→Prop)(Q:Exit→Act→World→Prop),sq E.P E.aF E.fn.ntmps E.yl w0→Rel E.P E.aF E.fn.ntmps w0 μ φ f m a w→(∀v f' m' y w' μ' φ',k v f' m' [(true,0)]=some r→aG E.P E.aF w0 μ' φ' m' w'→b9 E.P μ' φ' m' f' (bV E.fn.ntmps w0 a)→aq E.P μ' φ' v y→(∀id,v.has id=true→(m' id).isSome=true)→K (a.put o.dst y) w')→o.wpIn (FR rd) 0 E.P a w K Q
section
variable {R:Type} {E:Env}
variable{w0:bl}{μ:Ro}{φ:Nat→aK}{f:Fr}{m:Mem}{a:Act}{w:World}
theorem Rel.kT(h:Rel E.P E.aF E.fn.ntmps w0 μ φ f m a w):b9 E.P μ φ m f (bV E.fn.ntmps w0 a):=⟨h.fr,h.live⟩
variable{P:Program}{o:Oper}{K:Act→World→Prop}{Q:Exit→Act→World→Prop}
theorem fY{w':World}{y:Value}(hr:(execOp a.eval o).run P w=.ok (.value y) w')(h:K (a.put o.dst y) w'):o.wp P a w K Q:=by unfold Oper.wp;rw[hr];exact h
theorem y7{w':World}(hr:(execOp a.eval o).run P w=.ok .skip w')(h:K (a.put o.dst undef) w'):o.wp P a w K Q:=by unfold Oper.wp;rw[hr];exact h
variable{draw:Bool}{site:Nat}{v:V}
theorem xv.read{ft:bx}(nat:∀(f2:Fr)(m2:Mem),(∀x∈o.op.operands,bF E f2 x=bF E f x)→(∀x∈ft,m2 x.2=m x.2)→∀(R':Type)(k':V→Fr→Mem→bx→Option R'),cj E true site o f2 m2 k'=k' v f2 m2 ft)(hs:∀(w0:bl)(μ:Ro)(φ:Nat→aK)(a:Act)(w:World),Rel E.P E.aF E.fn.ntmps w0 μ φ f m a w→∃y,(execOp a.eval o).run E.P w=.ok (.value y) w∧aq E.P μ φ v y∧∀id,v.has id=true→(m id).isSome=true):xv E draw site o f m v f m ft:=by refine⟨fun _=>⟨rfl,[],rfl,by simp,nat⟩,fun _ _=>⟨rfl,rfl⟩,fun w0 μ φ a w K Q hR hK=>?_⟩;obtain⟨y,hr,hy,hl⟩:=hs w0 μ φ a w hR;exact fY hr (hK y w μ φ hR.toaG hR.kT hy hl)
variable{m':Mem}
theorem xv.make{f':Fr}{b:bI}(hd:draw=true→m site=none∧f'=f∧m'=aB m site b)(nat:draw=true→∀(f2:Fr)(m2:Mem),(∀x∈o.op.operands,bF E f2 x=bF E f x)→m2 site=none→∀(R':Type)(k':V→Fr→Mem→bx→Option R'),cj E true site o f2 m2 k'=k' v f2 (aB m2 site b) [(true,site)])(hs:∀(w0:bl)(μ:Ro)(φ:Nat→aK)(a:Act)(w:World),Rel E.P E.aF E.fn.ntmps w0 μ φ f m a w→∃y w' μ' φ',(execOp a.eval o).run E.P w=.ok (.value y) w'∧aG E.P E.aF w0 μ' φ' m' w'∧b9 E.P μ' φ' m' f' (bV E.fn.ntmps w0 a)∧aq E.P μ' φ' v y∧∀id,v.has id=true→(m' id).isSome=true):xv E draw site o f m v f' m' [(true,site)]:=by
 refine⟨fun h=>?_,fun _ h=>by simp_all,fun w0 μ φ a w K Q hR hK=>?_⟩
 ·obtain⟨h1,h2,h3⟩:=hd h;exact⟨h2,[(site,b)],h3,by simp,fun f2 m2 hf hm R' k'=>nat h f2 m2 hf (by simp_all) R' k'⟩
 grind [fY]
variable{args:Array Operand}
theorem mj(h:Rel E.P E.aF E.fn.ntmps w0 μ φ f m a w):(args.toList.map (bF E f)).length=(args.map a.eval).size∧∀(i:Nat)v x,(args.toList.map (bF E f))[i]?=some v→(args.map a.eval)[i]?=some x→aq E.P μ φ v x:=by refine⟨by simp,fun i v x hv hx=>?_⟩;simp only[AT,ae0]at hv;obtain⟨o,ho,rfl⟩:=hv;grind [Option.some.injEq,ax]
theorem sM(h:Rel E.P E.aF E.fn.ntmps w0 μ φ f m a w){args:List Operand}{id:Nat}(hid:cq id (args.map (bF E f))=true):(m id).isSome=true:=by obtain⟨v,hv,hh⟩:=cT.1 hid;obtain⟨o,_,rfl⟩:=anG.1 hv;exact(ax h o).2 id hh
theorem qD{f2:Fr}{l:List Operand}(h:∀x∈l,bF E f2 x=bF E f x):l.map (bF E f2)=l.map (bF E f):=an2 h
theorem uJ{f2:Fr}{l:List (Nat×Operand)}(h:∀x∈l,bF E f2 x.2=bF E f x.2):(l.map fun(x:Nat×Operand)=>(x.1,bF E f2 x.2))=l.map fun(x:Nat×Operand)=>(x.1,bF E f x.2):=an2 fun x hx=>by rw[h x hx]
variable{g:FuncId}
theorem As{fn:Func}{c:Code}(hf:P.funcs[g]?=some fn)(aes:(fn.name== "runtime.NumGoroutine")=false)(hb:fn.body=some c){args:Array Value}:(callFunc g args).run P w=.ok (.enter g args) w:=by simp_all[callFunc]
theorem tv{b:Bool}{x:Value}(h:aq P μ φ (.pv (.bool b)) x):x=.bool b:=by cases h with|pv h=>cases h;rfl
theorem XO{p:PV}(h:Gq dh v=some (p,m'))(m:Mem):Gq m v=some (p,m):=by unfold Gq at h⊢;grind [Option.some.injEq,Prod.mk.injEq,dh]
theorem Ec:∀{cs:List V}{ps:List PV}{m':Mem},nI dh cs=some (ps,m')→∀m:Mem,nI m cs=some (ps,m)
 |[],ps,m',h,m=>by simp only[nI,tb,T0]at h;rw[←h.1];rfl
 |c::r,ps,m',h,m=>by
  simp only[nI]at h;split at h
  ·rename_i p m1 h1;have e1:=tg h1;subst e1;split at h
   ·rename_i ps1 m2 h2;simp only[tb,T0]at h;simp only[nI,XO h1 m,Ec h2 m,h.1]
   ·cases h
  ·cases h
theorem Fb:∀{cs:List V}{ps:List PV}{m':Mem},nI dh cs=some (ps,m')→m'=dh
 |[],ps,m',h=>by simp_all[nI,tb,T0]
 |c::r,ps,m',h=>by
  simp only[nI]at h;split at h
  ·rename_i p m1 h1;have e1:=tg h1;subst e1;split at h
   ·rename_i ps1 m2 h2;simp only[tb,T0]at h;rw[←h.2];exact Fb h2
   ·cases h
  ·cases h
theorem NX{n:Nat}{agg:Bool}{p:PV}(h:lj dh n agg v=some (p,m')):m'=dh∧∀m:Mem,lj m n agg v=some (p,m):=by
 unfold lj at h;split at h
 ·rename_i cs hc;split at h
  ·rename_i ps m1 h1;have e1:=Fb h1;subst e1;cases agg with
   |true=>simp only[IS,tb,T0]at h;refine⟨h.2.symm,fun m=>?_⟩;unfold lj;simp only[hc,Ec h1 m,IS,h.1]
   |false=>
    simp only[tc,PS]at h;split at h
    ·simp only[tb,T0]at h;refine⟨h.2.symm,fun m=>?_⟩;unfold lj;simp only[hc,Ec h1 m,tc,PS,h.1]
    ·cases h
  ·cases h
 ·cases h
theorem tw{n:Nat}{agg:Bool}:∀{parts:List (Nat×V)}{i:Nat}{ps:List PV}{m':Mem},fB dh n agg i parts=some (ps,m')→m'=dh∧∀m:Mem,fB m n agg i parts=some (ps,m)
 |[],i,ps,m',h=>by simp_all[fB,tb,T0]
 |(j,v)::r,i,ps,m',h=>by
  simp only[fB]at h;split at h
  ·rename_i XC;split at h
   ·rename_i p m1 h1;obtain⟨e1,e2⟩:=NX h1;subst e1;split at h
    ·rename_i ps1 m2 h2;obtain⟨e3,e4⟩:=tw h2;simp_all[tb,T0,fB,BY]
    ·cases h
   ·cases h
  ·cases h
def CP(g:FuncId)(xs ys:Array Value):Array Value:=bif Nat.blt g Gp then ys++xs else xs++ys
theorem SR{caps args:List V}{xs ys:Array Value}(e1:args.length=ys.size)(h1:∀(i:Nat)v x,args[i]?=some v→ys[i]?=some x→aq P μ φ v x)(e2:caps.length=xs.size)(h2:∀(i:Nat)v x,caps[i]?=some v→xs[i]?=some x→aq P μ φ v x):(BA g caps args).length=(CP g xs ys).size∧∀(i:Nat)v x,(BA g caps args)[i]?=some v→(CP g xs ys)[i]?=some x→aq P μ φ v x:=by unfold BA CP;grind
theorem XP{caps args:List V}(h:v∈BA g caps args):v∈args∨v∈caps:=by unfold BA at h;grind
theorem XQ(g:FuncId)(xs:Array Value):CG (g+Gp) xs=.func (.func g) xs #[]:=by simp[CG,IT,Nat.le_add_left,apk]
theorem xw{site:Nat}:∀{ts:List TypeId}{j:Nat}{F:Fr}{m:Mem}{k:Fr→Mem→Option R}{r:R},Ad E site ts j F m k=some r→∃F' m',k F' m'=some r∧∀(G:Nat→Option (List PV))(w0:bl)(μ:Ro)(φ:Nat→aK)(w:World)(ρ:Nat→Value),aG E.P G w0 μ φ m w→b9 E.P μ φ m F ρ→∃φ',aG E.P G w0 μ φ' m' w∧b9 E.P μ φ' m' F' ρ
 |[],j,F,m,k,r,h=>⟨F,m,h,fun G w0 μ φ w ρ hM hF=>⟨φ,hM,hF⟩⟩
 |t::ts,j,F,m,k,r,h=>by
  simp only[Ad]at h;split at h
  ·rename_i hj;split at h
   ·rename_i e hu;split at h
    ·rename_i eO;obtain⟨f1,m1,hn,hk,yI,AP,xh⟩:=ck h;obtain⟨F',m',c1,c2⟩:=xw hk;refine⟨F',m',c1,fun G w0 μ φ w ρ hM hF=>?_⟩;obtain⟨φ',a1,a2,a3⟩:=xh E.P G w0 μ φ w w ρ (EY none 0 0 (aW E.P e)) hM hF ⟨lr.refl _ _,hM.ro,fun _ _ _ _ _=>rfl,by simp,fun φ' hp _=>by refine⟨by rw[hp];rfl,by rw[hp],rfl,eO,by simp,by rw[hp];simp[maxLen],?_⟩;simp_all,by simp[bI.names],fun g o h=>⟨(hM.hid g o h).1,by simp⟩,fun st h=>by cases h⟩;have hv:ρ j=.slice none 0 0:=by have:=hF.fr j;rw[hj]at this;generalize ρ j=y at this;cases this;rfl
     refine c2 G w0 μ φ' w ρ a2 ⟨fun s=>?_,fun s id hid=>?_⟩
     ·by_cases e:s=j
      ·subst e;rw[show gH f1 s (.os (wh site s)) s=.os (wh site s) by simp_all,hv];exact .ux (by rw[a1])
      ·rw[s8 e];exact a3.fr s
     ·by_cases e:s=j
      ·subst e;rw[show gH f1 s (.os (wh site s)) s=.os (wh site s) by simp_all]at hid;have hid:=K5 hid;subst hid;simp[yI]
      ·rw[s8 e]at hid;exact a3.live s id hid
    ·cases h
   ·cases h
  ·exact xw h
variable{k:V→Fr→Mem→bx→Option R}{r:R}
theorem acV(hE:jR E)(h:cj E draw site o f m k=some r)(hc:∀c,o.op≠.call c)(hb:∀op t x y ty s es,o.op=.binOp op t x y ty→bF E f x=.pv (.rs s es)→bF E f y≠.gy)(hit:Qs o.op=false):∃v f' m' ft,k v f' m' ft=some r∧xv E draw site o f m v f' m' ft:=by
 obtain⟨dst,op,type,pos,after,guard⟩:=o;unfold cj at h;cases op<;>simp only at h;case move x=>refine⟨_,_,_,_,h,.read (fun f2 m2 hf _ R' k'=>by simp only[cj];rw[hf x (by simp[Op.operands])]) fun w0 μ φ a w hR=>⟨_,rfl,(ax hR x).1,(ax hR x).2⟩⟩
 case pick c x y=>
  split at h
  ·rename_i t hc;cases t with
   |true=>simp only[IS]at h;refine⟨_,_,_,_,h,.read (fun f2 m2 hf _ R' k'=>by simp only[cj];rw[hf c (by simp[Op.operands]),hf x (by simp[Op.operands]),hc];simp) fun w0 μ φ a w hR=>?_⟩;have h1:=(ax hR c).1;rw[hc]at h1;exact⟨a.eval x,by simp[execOp,Go.asBool,tv h1],(ax hR x).1,(ax hR x).2⟩
   |false=>simp only[tc,PS]at h;refine⟨_,_,_,_,h,.read (fun f2 m2 hf _ R' k'=>by simp only[cj];rw[hf c (by simp[Op.operands]),hf y (by simp[Op.operands]),hc];simp) fun w0 μ φ a w hR=>?_⟩;have h1:=(ax hR c).1;rw[hc]at h1;exact⟨a.eval y,by simp[execOp,Go.asBool,tv h1],(ax hR y).1,(ax hR y).2⟩
  ·cases h
 case assign x=>
  have mk:∀{v},bF E f x=v→(v=.gy→∀e,E.P.underlying type≠some (.slice e))→k v f m []=some r→∃v f' m' ft,k v f' m' ft=some r∧xv E draw site {dst,op:=.assign x,type,pos,after,guard} f m v f' m' ft:=by
   intro v hv cy hk;refine⟨v,f,m,[],hk,.read (fun f2 m2 hf _ R' k'=>?_) fun w0 μ φ a w hR=>⟨_,rfl,hv▸(ax hR x).1,hv▸(ax hR x).2⟩⟩;simp only[cj];rw[hf x (by simp[Op.operands]),hv];cases v<;>try rfl
   simp only;split
   ·rename_i e hu;exact absurd hu (cy rfl e)
   ·rfl
  split at h
  ·rename_i hx;split at h
   ·rename_i e hu;split at h
    ·rename_i eO;obtain⟨f',m',hn,hk,yI,AP,xh⟩:=ck h;refine⟨_,_,_,_,hk,.make AP (fun _ f2 m2 hf hs R' k'=>?_) fun w0 μ φ a w hR=>?_⟩
     ·simp only[cj];rw[hf x (by simp[Op.operands]),hx];simp only[hu,eO,IS,fresh,hs]
     ·have h1:=(ax hR x).1;rw[hx]at h1;obtain⟨φ',a1,a2,a3⟩:=xh E.P E.aF w0 μ φ w w _ (EY none 0 0 (aW E.P e)) hR.toaG hR.kT ⟨lr.refl _ _,hR.ro,fun _ _ _ _ _=>rfl,by simp,fun φ' hp _=>by refine⟨by rw[hp];rfl,by rw[hp],rfl,eO,by simp,by rw[hp];simp[maxLen],?_⟩;rw[hp];exact⟨rfl,rfl⟩,by simp[bI.names],fun g o h=>⟨(hR.hid g o h).1,by simp⟩,fun st h=>by cases h⟩;refine⟨.slice none 0 0,w,μ,φ',?_,a2,a3,.ux (by rw[a1]),fun id hid=>?_⟩
      ·simp only[execOp,Sem.run_pure];generalize a.eval x=y at h1;cases h1;rfl
      ·have hid:=K5 hid;subst hid;simp[yI]
    ·cases h
   ·rename_i hu;exact mk hx (fun _ e he=>hu e he) h
  ·rename_i hx;exact mk rfl (fun he=>absurd he hx) h
 case alloc t=>
  split at h
  ·rename_i cs hz;obtain⟨i,zv,z1,z2,z3,z4,z5,z6,z7,z8⟩:=dC hz;cases Ji:E.DR site with
   |true=>
    rw[Ji]at h;simp only[cond_true]at h;split at h
    ·rename_i n e ps hu pS;split at h
     ·rename_i Lt;obtain⟨ha,hl,eO,alk⟩:=Lt;obtain⟨f',m',hn,hk,yI,AP,xh⟩:=ck h;obtain⟨q1,q2⟩:=gJ pS;have qB:(pX (aW E.P e) n (.agg ps)).length=n:=by simp[pX]
      refine⟨_,_,_,_,hk,.make AP (fun _ f2 m2 hf hs R' k'=>by simp only[cj,hz,Ji,hu,pS,cond_true];rw[BY ⟨ha,hl,eO,alk⟩];simp only[fresh,hs]) fun w0 μ φ a w hR=>?_⟩;have pQ:au E.P μ (.agg ps) (.agg zv.cells):=.agg (by omega) (fun i p x hp hx=>by obtain⟨v,hv,hpo⟩:=q2 i p hp;have:=z7 μ φ i v x hv hx;cases v<;>simp[vi]at hpo;subst hpo;cases this with|pv h=>exact h) z8;have hC:Cells E.P μ (aW E.P e) (pX (aW E.P e) n (.agg ps)) (zv.cells.toList.take ((pX (aW E.P e) n (.agg ps)).length*aW E.P e)):=by
       refine⟨by rw[qB];simp;omega,fun i e' Qj=>?_,fun i e' j p y hi hj hy=>?_,fun i y hy=>z8 i y (by simpa using(iQ hy).2)⟩
       ·obtain⟨_,rfl⟩:=BJ Qj;exact vr
       ·obtain⟨x',x1,x2,_⟩:=J2 (k:=i*aW E.P e+j) pQ (by omega) hi hj rfl;have:=(iQ hy).2;rw[aoi,x1]at this;cases this;exact x2
      obtain⟨φ',a1,a2,a3⟩:=xh E.P E.aF w0 μ φ w _ _ (EY (some w.heap.size) n (pX (aW E.P e) n (.agg ps)).length (aW E.P e)) hR.toaG hR.kT (lW.alloc (o:=.cells zv.cells t) hR.toaG rfl (fun φ' hp _=>aP.re (g:=w.heap.size) (by rw[hp]) rfl eO (by rw[hp];simp only[maxLen,EY];omega) (fV w _) (by rw[hp];simp only[EY];omega) (by rw[hp,qB];exact anz _) hC) (by simp[bI.names]));refine⟨.pointer (some ⟨w.heap.size,0,none⟩),w.alloc (.cells zv.cells t),μ,φ',by simp[execOp,Ap z1 z2],a2,a3,?_,fun id hid=>?_⟩
      ·have:=aq.oe (P:=E.P) (μ:=μ) (φ:=φ') (id:=site) (i:=0) (off:=0) (g:=w.heap.size) (by rw[a1]);simpa using this
      ·have hid:=K5 hid;subst hid;simp[yI]
     ·cases h
    ·cases h
   |false=>
   rw[Ji]at h;simp only[cond_false]at h;split at h
   ·rename_i XR;have hdf:draw=false:=by simp only[OF,anT]at XR;exact XR.1
    obtain⟨F,m1,g1,g2⟩:=xw h;obtain⟨f',m',hn,hk,yI,AP,xh⟩:=ck g1;refine⟨_,_,_,_,hk,⟨fun hd=>(by rw[hdf]at hd;cases hd),fun _ h=>(by have:=h (true,site) (by simp);cases this),fun w0 μ φ a w K Q hR hK=>?_⟩⟩;have x1:cs.length=zv.cells.size:=by omega
    have x2:=z7 μ φ;have x3:=z8;have hF0:b9 E.P μ φ m (yp cs.length cs f) (fun t=>if t<cs.length then zv.cells.getD t undef else bV E.fn.ntmps w0 a (t-cs.length)):=by
     refine⟨fun t=>?_,fun t id hid=>?_⟩
     ·unfold yp;by_cases ht:t<cs.length
      ·rw[show Nat.blt t cs.length=true by rw[aoF];exact ht,BY ht];show aq E.P μ φ (cs.getD t .top) _;have hx:t<zv.cells.size:=by omega
       rw[show cs.getD t .top=cs[t] by simp[List.getD,ht],show zv.cells.getD t undef=zv.cells[t] by simp[Array.getD,hx]];exact x2 t _ _ (ta ht) (T1 hx)
      ·rw[show Nat.blt t cs.length=false by rw[←aor,aoF];exact ht,IT ht];exact hR.kT.fr _
     ·unfold yp at hid;cases e:Nat.blt t cs.length with
      |true=>
       rw[e]at hid;have ht:t<cs.length:=by rwa[aoF]at e
       have hid:(cs.getD t .top).has id=true:=hid;rw[show cs.getD t .top=cs[t] by simp[List.getD,ht]]at hid;exact absurd (bO (agZ ht) hid) (by rw[z6];simp)
      |false=>rw[e]at hid;exact hR.kT.live _ id hid
    obtain⟨φ1,xq,FV⟩:=g2 E.aF w0 μ φ w _ hR.toaG hF0;have hF2:b9 E.P μ φ1 m1 (yM cs.length F) (bV E.fn.ntmps w0 a):=by refine⟨fun t=>?_,fun t id hid=>FV.live _ id hid⟩;have:=FV.fr (t+cs.length);rw[IT (by omega),apk]at this;exact this
    have Jk:∀(i:Nat)u y,((List.range cs.length).map F)[i]?=some u→zv.cells[i]?=some y→aq E.P μ φ1 u y:=fun i u y hu hy=>by
     have hi:i<cs.length:=by have:=(IN.1 hu).1;simpa using this
     have s7:F i=u:=by simpa[hi]using hu
     have:=FV.fr i;rw[BY hi,s7,show zv.cells.getD i undef=y by simp[ams,hy]]at this;exact this
    obtain⟨φ',a1,a2,a3⟩:=xh E.P E.aF w0 μ φ1 w _ _ _ xq hF2 (lW.box (T:=t) xq (c:=zv.cells) (by simp;omega) Jk x3 (fun id hid=>by obtain⟨u,hu,hh⟩:=cT.1 hid;obtain⟨i,_,rfl⟩:=anG.1 hu;exact FV.live i id hh));refine fY (y:=.pointer (some ⟨w.heap.size,0,none⟩)) (w':=w.alloc (.cells zv.cells t)) (by simp[execOp,Ap z1 z2]) (hK _ _ μ φ' a2 a3 (.op (by rw[a1])) fun id hid=>?_);have hid:=K5 hid;subst hid;simp[yI]
   rename_i XR;have h:fresh draw site (.box cs) f m (fun f m ft=>k (.op site 0) f m ft)=some r:=h;obtain⟨f',m',hn,hk,yI,AP,xh⟩:=ck h;refine⟨_,_,_,_,hk,.make AP (fun _ f2 m2 hf hs R' k'=>by simp only[cj,hz,Ji,cond_false,fresh,hs,ag0,apw,tc,PS]) fun w0 μ φ a w hR=>?_⟩;obtain⟨φ',a1,a2,a3⟩:=xh E.P E.aF w0 μ φ w _ _ _ hR.toaG hR.kT (lW.box (T:=t) hR.toaG (c:=zv.cells) (by omega) (z7 μ φ) z8 (fun id hid=>by rw[z6]at hid;cases hid));refine⟨.pointer (some ⟨w.heap.size,0,none⟩),w.alloc (.cells zv.cells t),μ,φ',by simp[execOp,Ap z1 z2],a2,a3,.op (by rw[a1]),fun id hid=>?_⟩;have hid:=K5 hid;subst hid;simp[yI]
  ·cases h
 case box t x=>
  split at h
  ·rename_i cs hc;obtain⟨n1,n2,n3⟩:=toCells_ok hc;split at h
   ·rename_i XR;have hdf:draw=false:=by simp only[OF,anT]at XR;exact XR.1
    split at h
    ·rename_i ts hts;split at h
     ·rename_i hlen;obtain⟨F,m1,g1,g2⟩:=xw h;obtain⟨f',m',hn,hk,yI,AP,xh⟩:=ck g1;refine⟨_,_,_,_,hk,⟨fun hd=>(by rw[hdf]at hd;cases hd),fun _ h=>(by have:=h (true,site) (by simp);cases this),fun w0 μ φ a w K Q hR hK=>?_⟩⟩;obtain⟨h1,h2⟩:=ax hR x;obtain⟨x1,x2,x3⟩:=n3 _ _ _ _ h1;have hF0:b9 E.P μ φ m (yp cs.length cs f) (fun t=>if t<cs.length then(a.eval x).cells.getD t undef else bV E.fn.ntmps w0 a (t-cs.length)):=by
       refine⟨fun t=>?_,fun t id hid=>?_⟩
       ·unfold yp;by_cases ht:t<cs.length
        ·rw[show Nat.blt t cs.length=true by rw[aoF];exact ht,BY ht];show aq E.P μ φ (cs.getD t .top) _;have hx:t<(a.eval x).cells.size:=by omega
         rw[show cs.getD t .top=cs[t] by simp[List.getD,ht],show(a.eval x).cells.getD t undef=(a.eval x).cells[t] by simp[Array.getD,hx]];exact x2 t _ _ (ta ht) (T1 hx)
        ·rw[show Nat.blt t cs.length=false by rw[←aor,aoF];exact ht,IT ht];exact hR.kT.fr _
       ·unfold yp at hid;cases e:Nat.blt t cs.length with
        |true=>
         rw[e]at hid;have ht:t<cs.length:=by rwa[aoF]at e
         have hid:(cs.getD t .top).has id=true:=hid;rw[show cs.getD t .top=cs[t] by simp[List.getD,ht]]at hid;exact h2 id (n2 id (bO (agZ ht) hid))
        |false=>rw[e]at hid;exact hR.kT.live _ id hid
      obtain⟨φ1,xq,FV⟩:=g2 E.aF w0 μ φ w _ hR.toaG hF0;have hF2:b9 E.P μ φ1 m1 (yM cs.length F) (bV E.fn.ntmps w0 a):=by refine⟨fun t=>?_,fun t id hid=>FV.live _ id hid⟩;have:=FV.fr (t+cs.length);rw[IT (by omega),apk]at this;exact this
      have Jk:∀(i:Nat)u y,((List.range cs.length).map F)[i]?=some u→(a.eval x).cells[i]?=some y→aq E.P μ φ1 u y:=fun i u y hu hy=>by
       have hi:i<cs.length:=by have:=(IN.1 hu).1;simpa using this
       have s7:F i=u:=by simpa[hi]using hu
       have:=FV.fr i;rw[BY hi,s7,show(a.eval x).cells.getD i undef=y by simp[ams,hy]]at this;exact this
      obtain⟨φ',a1,a2,a3⟩:=xh E.P E.aF w0 μ φ1 w _ _ _ xq hF2 (lW.box (T:=t) xq (c:=(a.eval x).cells) (by simp;omega) Jk x3 (fun id hid=>by obtain⟨u,hu,hh⟩:=cT.1 hid;obtain⟨i,_,rfl⟩:=anG.1 hu;exact FV.live i id hh));refine fY (y:=.pointer (some ⟨w.heap.size,0,none⟩)) (w':=w.alloc (.cells (a.eval x).cells t)) (by simp[execOp,SG]) (hK _ _ μ φ' a2 a3 (.op (by rw[a1])) fun id hid=>?_);have hid:=K5 hid;subst hid;simp[yI]
     ·cases h
    ·cases h
   rename_i XR;have h:fresh draw site (.box cs) f m (fun f m ft=>k (.op site 0) f m ft)=some r:=h;have XR:draw=true→(!true&&cs.any Xb)=false:=fun _=>rfl;obtain⟨f',m',hn,hk,yI,AP,xh⟩:=ck h;refine⟨_,_,_,_,hk,.make AP (fun _ f2 m2 hf hs R' k'=>by simp only[cj];rw[hf x (by simp[Op.operands])];simp only[hc,fresh,hs,ag0,apw,tc,PS]) fun w0 μ φ a w hR=>?_⟩;obtain⟨h1,h2⟩:=ax hR x;obtain⟨x1,x2,x3⟩:=n3 _ _ _ _ h1;obtain⟨φ',a1,a2,a3⟩:=xh E.P E.aF w0 μ φ w _ _ _ hR.toaG hR.kT (lW.box (T:=t) hR.toaG (c:=(a.eval x).cells) (by omega) x2 x3 (fun id hid=>h2 id (n2 id hid)));refine⟨.pointer (some ⟨w.heap.size,0,none⟩),w.alloc (.cells (a.eval x).cells t),μ,φ',by simp[execOp,SG],a2,a3,.op (by rw[a1]),fun id hid=>?_⟩;have hid:=K5 hid;subst hid;simp[yI]
  ·cases h
 case build t parts=>obtain⟨v,v1,v2,v3,v4⟩:=UM h;have U0:∀f2:Fr,(∀x∈(Op.build t parts).operands,bF E f2 x=bF E f x)→(parts.toList.map fun(x:Nat×Operand)=>(x.1,bF E f2 x.2))=parts.toList.map fun(x:Nat×Operand)=>(x.1,bF E f x.2):=fun f2 hf=>uJ fun x hx=>hf x.2 (by simp only[Op.operands,apB,anG];exact⟨x,hx,rfl⟩);refine⟨_,_,_,_,v2,.read (fun f2 m2 hf _ R' k'=>by simp only[cj];rw[U0 f2 hf];exact v1 _ _) fun w0 μ φ a w hR=>?_⟩;obtain⟨z,z1,z2⟩:=v4 μ φ w (parts.map fun(i,x)=>(i,a.eval x)) (by simp) (fun j i v hj=>by simp only[AT,ae0]at hj;obtain⟨y,hy,he⟩:=hj;simp only[T0]at he;obtain⟨rfl,rfl⟩:=he;refine⟨a.eval y.2,?_,(ax hR y.2).1⟩;rw[Array.getElem?_map,←aoi,hy];rfl);refine⟨z,by simp only[execOp,Sem.run_bind,z1,Result.andThen_ok,Sem.run_pure],z2,fun id hid=>?_⟩;have h5:=v3 id hid;rw[ao8]at h5;obtain⟨u,hu,hh⟩:=cT.1 h5;obtain⟨y,hy,rfl⟩:=anG.1 hu;exact(ax hR y.2).2 id hh
 case load t x=>obtain⟨v,ft,v1,v2,v3,v4⟩:=GI h;refine⟨_,_,_,_,v2,.read (fun f2 m2 hf hm R' k'=>by simp only[cj];rw[hf x (by simp[Op.operands])];exact v1 m2 hm _ _) fun w0 μ φ a w hR=>?_⟩;obtain⟨y,y1,y2,y3⟩:=v4 _ _ _ _ _ _ hR.toaG (ax hR x).1;exact⟨y,by simp[execOp,y1],y2,y3⟩
 case store t x y=>
  obtain⟨m',ft,k1,k2,k3,k4⟩:=UI h;refine⟨_,_,_,_,k1,⟨fun hd=>?_,fun h _=>by(simp[fI]at h),fun w0 μ φ a w K Q hR hK=>?_⟩⟩
  ·obtain⟨id,b,rfl,rfl,d3⟩:=k2 hd;refine⟨rfl,[(id,b)],rfl,by simp,fun f2 m2 hf hm R' k'=>?_⟩;simp only[cj];rw[hf x (by simp[Op.operands]),hf y (by simp[Op.operands])];exact d3 m2 (hm (true,id) (by simp)) _ _
  ·obtain⟨w',μ',s1,s2,s3⟩:=k4 _ _ _ _ _ _ _ hR.toaG (ax hR x).1 (ax hR y).1 (ax hR y).2;exact y7 (by simp[execOp,s1]) (hK undef w' μ' φ s3 (hR.kT.oA s2 k3) .top (by simp))
 case nilCheck x=>
  have key:∀{v},bF E f x=v→(∀(μ:Ro)(φ:Nat→aK)y,aq E.P μ φ v y→(∃ad,y=.pointer (some ad))∨∃g xs ys,y=.func (.func g) xs ys)→k v f m []=some r→(∀(R':Type)(k':V→Fr→Mem→bx→Option R')(f2:Fr)(m2:Mem),bF E f2 x=v→cj E true site {dst,op:=.nilCheck x,type,pos,after,guard} f2 m2 k'=k' v f2 m2 [])→∃v f' m' ft,k v f' m' ft=some r∧xv E draw site {dst,op:=.nilCheck x,type,pos,after,guard} f m v f' m' ft:=by
   intro v hv hp hk hn;refine⟨v,f,m,[],hk,.read (fun f2 m2 hf _ R' k'=>hn R' k' f2 m2 (by rw[hf x (by simp[Op.operands]),hv])) fun w0 μ φ a w hR=>?_⟩;obtain⟨h1,h2⟩:=ax hR x;rw[hv]at h1 h2;refine⟨a.eval x,?_,h1,h2⟩;rcases hp μ φ _ h1 with⟨ad,e⟩|⟨g,xs,ys,e⟩
   ·simp only[execOp,e];rfl
   ·simp only[execOp,e];rfl
  split at h
  ·rename_i cs hx;exact key hx (fun μ φ y hy=>by cases hy with|pv hy=>cases hy;exact .inl ⟨_,rfl⟩) h fun R' k' f2 m2 e=>by simp only[cj,e]
  ·rename_i id off hx;exact key hx (fun μ φ y hy=>by cases hy;exact .inl ⟨_,rfl⟩) h fun R' k' f2 m2 e=>by simp only[cj,e]
  ·rename_i id i off hx;exact key hx (fun μ φ y hy=>by cases hy;exact .inl ⟨_,rfl⟩) h fun R' k' f2 m2 e=>by simp only[cj,e]
  ·rename_i id i off s j off2 hx;exact key hx (fun μ φ y hy=>by cases hy;exact .inl ⟨_,rfl⟩) h fun R' k' f2 m2 e=>by simp only[cj,e]
  ·rename_i g cs hx;exact key hx (fun μ φ y hy=>by cases hy;exact .inr (ou _ _)) h fun R' k' f2 m2 e=>by simp only[cj,e]
  ·rename_i g cs hx;exact key hx (fun μ φ y hy=>by cases hy with|pv hy=>cases hy;exact .inr (ou _ _)) h fun R' k' f2 m2 e=>by simp only[cj,e]
  ·cases h
 case binOp op t x y ty=>
  have wq:∀(f2:Fr)(m2:Mem)(R':Type)(k':V→Fr→Mem→bx→Option R')(d:Bool),bF E f2 x=bF E f x→bF E f2 y=bF E f y→cj E d site ⟨dst,.binOp op t x y ty,type,pos,after,guard⟩ f2 m2 k'=Nq E op t y (bF E f x) (bF E f y) fun p=>k' (.pv p) f2 m2 []:=by
   intro f2 m2 R' k' d e1 e2;simp only[cj];rw[e1,e2];split
   ·rename_i s es h1 h2;exact absurd h2 (hb op t x y ty s es rfl h1)
   ·rfl
  have h:cj E draw site ⟨dst,.binOp op t x y ty,type,pos,after,guard⟩ f m k=some r:=by simp only[cj];exact h
  rw[wq f m R k draw rfl rfl]at h;obtain⟨q,q1,q2,q3⟩:=XN h;refine⟨_,_,_,_,q2,.read (fun f2 m2 hf hm R' k'=>by rw[wq f2 m2 R' k' true (hf x (by simp[Op.operands])) (hf y (by simp[Op.operands]))];exact q1 _ _) fun w0 μ φ a w hR=>?_⟩;obtain⟨z,z1,z2⟩:=q3 μ φ w x _ _ (fun hn=>by
   unfold Gs at hn;split at hn
   ·rfl
   ·cases hn) (ax hR x).1 (ax hR y).1
  exact⟨z,by simp only[vo]at z1;simp only[execOp,Sem.run_bind,Sem.run_pure]at z1⊢;rw[z1];rfl,.pv z2,by simp⟩
 case unOp op t x=>obtain⟨q,q1,q2,q3⟩:=afe h;refine⟨_,_,_,_,q2,.read (fun f2 m2 hf hm R' k'=>by simp only[cj];rw[hf x (by simp[Op.operands])];exact q1 _ _) fun w0 μ φ a w hR=>?_⟩;obtain⟨z,z1,z2⟩:=q3 E.P μ φ w _ (ax hR x).1;exact⟨z,by simp[execOp,z1],.pv z2,by simp⟩
 case convert s d x=>obtain⟨q,ft,q1,q2,_,q3⟩:=U5 h;refine⟨_,_,_,_,q2,.read (fun f2 m2 hf hm R' k'=>by simp only[cj];rw[hf x (by simp[Op.operands])];exact q1 m2 hm _ _) fun w0 μ φ a w hR=>?_⟩;obtain⟨z,z1,z2⟩:=q3 _ _ μ φ w _ hR.toaG (ax hR x).1;exact⟨z,by simp[execOp,z1],.pv z2,by simp⟩
 case fieldAddr s x j=>obtain⟨v,v1,v2,v3,v4⟩:=A6 h;refine⟨_,_,_,_,v2,.read (fun f2 m2 hf hm R' k'=>by simp only[cj];rw[hf x (by simp[Op.operands])];exact v1 _ _) fun w0 μ φ a w hR=>?_⟩;obtain⟨z,z1,z2⟩:=v4 μ φ w _ (ax hR x).1;exact⟨z,by simp[execOp,z1],z2,fun id hid=>(ax hR x).2 id (by rw[←v3];exact hid)⟩
 case field s x j=>obtain⟨v,v1,v2,v3,v4⟩:=UA h;refine⟨_,_,_,_,v2,.read (fun f2 m2 hf hm R' k'=>by simp only[cj];rw[hf x (by simp[Op.operands])];exact v1 _ _) fun w0 μ φ a w hR=>?_⟩;obtain⟨z,z1,z2⟩:=v4 μ φ w _ (ax hR x).1;exact⟨z,by simp[execOp,z1],z2,fun id hid=>(ax hR x).2 id (v3 id hid)⟩
 case indexAddr t x ix=>obtain⟨v,ft,v1,v2,v3,v4,v5⟩:=Jg h;refine⟨_,_,_,_,v2,.read (fun f2 m2 hf hm R' k'=>by simp only[cj];rw[hf x (by simp[Op.operands]),hf ix (by simp[Op.operands])];exact v1 m2 hm _ _) fun w0 μ φ a w hR=>?_⟩;obtain⟨z,z1,z2⟩:=v5 _ _ μ φ w _ _ hR.toaG (ax hR x).1 (ax hR ix).1;exact⟨z,by simp[execOp,z1],z2,fun id hid=>(ax hR x).2 id (v4 id hid)⟩
 case index t x ix=>obtain⟨v,v1,v2,v3,v4⟩:=UB h;refine⟨_,_,_,_,v2,.read (fun f2 m2 hf hm R' k'=>by simp only[cj];rw[hf x (by simp[Op.operands]),hf ix (by simp[Op.operands])];exact v1 _ _) fun w0 μ φ a w hR=>?_⟩;obtain⟨z,z1,z2⟩:=v4 μ φ w _ _ (ax hR x).1 (ax hR ix).1;exact⟨z,by simp[execOp,z1],z2,fun id hid=>(ax hR x).2 id (v3 id hid)⟩
 case lookup t x ix ok=>
  split at h
  ·rename_i hn;have jq:ok=false:=by cases ok<;>simp at hn⊢
   subst jq;obtain⟨id,b1,b2,m',rfl,hk,hs,td,SB,hid,QD,afo⟩:=XH h;refine⟨_,_,_,_,hk,⟨fun hd=>⟨rfl,[(id,b1),(site,b2)],rfl,by simp,fun f2 m2 hf hm R' k'=>?_⟩,fun _ h=>absurd (h (true,id) (by simp)) (by simp),fun w0 μ φ a w K Q hR hK=>?_⟩⟩
   ·simp only[cj];rw[BY hn,hf x (by simp[Op.operands]),hf ix (by simp[Op.operands])];exact QD m2 (hm (true,id) (by simp)) (by rw[hm (true,site) (by simp)];exact hs) _ _
   ·obtain⟨u,φ',u1,u2,u3,u4⟩:=afo _ _ _ _ _ _ _ _ _ hR.toaG hR.kT (ax hR x).1 (ax hR ix).1;exact fY (y:=u) (w':=w) (by simp[execOp,u1]) (hK u w μ φ' u2 u3 u4 fun j hj=>by have hj:=K5 hj;subst hj;simp[uE])
  rename_i hn;obtain⟨v,ft,v1,v2,v3,v4,v5⟩:=QG h;refine⟨_,_,_,_,v2,.read (fun f2 m2 hf hm R' k'=>by simp only[cj];rw[IT hn,hf x (by simp[Op.operands]),hf ix (by simp[Op.operands])];exact v1 m2 hm _ _) fun w0 μ φ a w hR=>?_⟩;obtain⟨z,z1,z2⟩:=v5 _ _ μ φ w _ _ hR.toaG (ax hR x).1 (ax hR ix).1;exact⟨z,by simp[execOp,z1],z2,fun id hid=>by rw[v4]at hid;cases hid⟩
 case mapUpdate t x key val=>
  obtain⟨m',ft,k1,k2,k3,k4⟩:=Bd h;refine⟨_,_,_,_,k1,⟨fun hd=>?_,fun h _=>by(simp[fI]at h),fun w0 μ φ a w K Q hR hK=>?_⟩⟩
  ·obtain⟨id,b,rfl,rfl,d3⟩:=k2 hd;refine⟨rfl,[(id,b)],rfl,by simp,fun f2 m2 hf hm R' k'=>?_⟩;simp only[cj];rw[hf x (by simp[Op.operands]),hf key (by simp[Op.operands]),hf val (by simp[Op.operands])];exact d3 m2 (hm (true,id) (by simp)) _ _
  ·obtain⟨w',μ',s1,s2,s3⟩:=k4 _ _ _ _ _ _ _ _ hR.toaG (ax hR x).1 (ax hR key).1 (ax hR val).1;exact y7 (by simp[execOp,s1]) (hK undef w' μ' φ s3 (hR.kT.oA s2 k3) .top (by simp))
 case insert t x key val=>
  obtain⟨m',ft,k1,k2,k3,k4⟩:=Bd h;refine⟨_,_,_,_,k1,⟨fun hd=>?_,fun h _=>by(simp[fI]at h),fun w0 μ φ a w K Q hR hK=>?_⟩⟩
  ·obtain⟨id,b,rfl,rfl,d3⟩:=k2 hd;refine⟨rfl,[(id,b)],rfl,by simp,fun f2 m2 hf hm R' k'=>?_⟩;simp only[cj];rw[hf x (by simp[Op.operands]),hf key (by simp[Op.operands]),hf val (by simp[Op.operands])];exact d3 m2 (hm (true,id) (by simp)) _ _
  ·obtain⟨w',μ',s1,s2,s3⟩:=k4 _ _ _ _ _ _ _ _ hR.toaG (ax hR x).1 (ax hR key).1 (ax hR val).1;exact y7 (by simp[execOp,s1]) (hK undef w' μ' φ s3 (hR.kT.oA s2 k3) .top (by simp))
 case extract t i=>
  split at h
  ·rename_i vs hx;split at h
   ·rename_i v hv;refine⟨_,_,_,_,h,.read (fun f2 m2 hf hm R' k'=>by simp only[cj];rw[hf t (by simp[Op.operands]),hx];simp only[hv]) fun w0 μ φ a w hR=>?_⟩;obtain⟨h1,h2⟩:=ax hR t;rw[hx]at h1 h2;generalize hy:a.eval t=y at h1;cases h1 with
    | @aV _ xs t1 t2=>
     have bK:i<xs.size:=by have:=(IN.1 hv).1;omega
     refine⟨xs[i],by simp[execOp,hy,Instr.extract,bK],t2 i v _ hv (T1 bK),fun id hid=>h2 id (by simp only[V.has];exact bO (amq hv) hid)⟩
   ·cases h
  ·cases h
 case makeSlice t l c=>
  obtain⟨f',m',b,hd,hk,yI,hs⟩:=Jj h;refine⟨_,_,_,_,hk,.make (fun AP=>⟨(hd AP).1,(hd AP).2.1,(hd AP).2.2.1⟩) (fun AP f2 m2 hf hs' R' k'=>?_) fun w0 μ φ a w hR=>?_⟩
  ·simp only[cj];rw[hf l (by simp[Op.operands]),hf c (by simp[Op.operands])];exact(hd AP).2.2.2 f2 m2 hs' _ _
  ·obtain⟨w',y,φ',r1,r2,r3,r4⟩:=hs _ w0 μ φ w (bV E.fn.ntmps w0 a) _ _ hR.toaG hR.kT (ax hR l).1 (ax hR c).1;refine⟨y,w',μ,φ',by simp[execOp,r1],r2,r3,r4,fun id hid=>?_⟩;have hid:=K5 hid;subst hid;exact yI
 case makeMap t hint=>
  split at h
  ·rename_i hh;split at h
   ·rename_i kt et hu;split at h
    ·rename_i hk;obtain⟨ks,Xt⟩:=anK.1 hk;have QD:∀f2:Fr,(∀x∈(Op.makeMap t hint).operands,bF E f2 x=bF E f x)→Le E f2 hint=true:=fun f2 hf=>by
      cases hint with
      |none=>rfl
      |some x=>simp only[Le]at hh⊢;rw[hf x (by simp[Op.operands])];exact hh
     have mk:∀b:bI,(∀i off,b.rowAt i off=true→False)→(∀(μ:Ro)(φ':Nat→aK)(w:World),(φ' site).g=some w.heap.size→gK E.P μ φ' (w.alloc (.map #[] 0)) site b)→(∀id,b.names id=false)→(∀st,b≠.loop st)→fresh draw site b f m (fun f m ft=>k (.om site) f m ft)=some r→(∀(f2:Fr)(m2:Mem),(∀x∈(Op.makeMap t hint).operands,bF E f2 x=bF E f x)→m2 site=none→∀(R':Type)(k':V→Fr→Mem→bx→Option R'),cj E true site ⟨dst,.makeMap t hint,type,pos,after,guard⟩ f2 m2 k'=k' (.om site) f2 (aB m2 site b) [(true,site)])→∃v f' m' ft,k v f' m' ft=some r∧xv E draw site ⟨dst,.makeMap t hint,type,pos,after,guard⟩ f m v f' m' ft:=by
      intro b J0 kL hnm hlp h Xj;obtain⟨f',m',hn,nM,yI,AP,xh⟩:=ck h J0;refine⟨_,_,_,_,nM,.make AP (fun _ f2 m2 hf hs R' k'=>Xj f2 m2 hf hs R' k') fun w0 μ φ a w hR=>?_⟩;obtain⟨φ',a1,a2,a3⟩:=xh E.P E.aF w0 μ φ w _ _ (EY (some w.heap.size) 0 0 0) hR.toaG hR.kT (lW.alloc (o:=.map #[] 0) hR.toaG rfl (fun φ' hp _=>kL _ _ _ (by rw[hp])) (fun id hid=>by rw[hnm]at hid;cases hid) (fun st h=>absurd h (hlp st)));have vk:(Instr.makeMap t (hint.map a.eval)).run E.P w=.ok (.map (some w.heap.size)) (w.alloc (.map #[] 0)):=by
       cases hint with
       |none=>rfl
       |some x=>
        have h1:=(ax hR x).1;simp only[Le]at hh;split at hh
        ·rename_i q n hx;rw[hx]at h1;generalize hy:a.eval x=y at h1;cases h1 with
         |pv h1=>cases h1;simp[Instr.makeMap,hy,run_underlying hu,Go.asInt,asIntOf,newObj];rfl
        ·cases hh
      refine⟨.map (some w.heap.size),w.alloc (.map #[] 0),μ,φ',by simp only[execOp,Sem.run_bind,vk];rfl,a2,a3,.om (by rw[a1]),fun id hid=>?_⟩;have hid:=K5 hid;subst hid;simp[yI]
     split at h
     ·rename_i afp;split at h
      ·rename_i e hue;exact mk (.fH kt e []) (fun i off h=>by cases off<;>simp[bI.rowAt]at h) (fun μ φ' w hg=>⟨w.heap.size,#[],0,ks,hg,fV w _,rfl,Xt,by simp,fun i e h=>by simp at h,by simp⟩) (fun _=>rfl) (fun st h=>by cases h) h fun f2 m2 hf hs R' k'=>by simp only[cj,QD f2 hf,hu,hk,fresh,hs,IS,afp,hue]
      ·cases h
     ·rename_i afp;exact mk (.map kt []) (fun i off h=>by simp[bI.rowAt]at h) (fun μ φ' w hg=>NO Xt hg) (fun _=>rfl) (fun st h=>by cases h) h fun f2 m2 hf hs R' k'=>by simp only[cj,QD f2 hf,hu,hk,fresh,hs,IS];rw[IT afp]
    ·cases h
   ·cases h
  ·cases h
 case makeFunc fn first caps=>
  cases fn<;>simp only at h;case func g=>
   cases U1:Nat.blt g Gp with
   |false=>rw[U1]at h;cases h
   |true=>
   rw[U1]at h;simp only[cond_true]at h;split at h
   ·rename_i XS;have hf0:first= #[]:=by simpa using XS
    subst hf0;refine⟨_,_,_,_,h,.read (fun f2 m2 hf hm R' k'=>?_) fun w0 μ φ a w hR=>⟨.func (.func g) #[] (caps.map a.eval),by simp[execOp,Instr.makeFunc],by rw[←sY U1];exact .fn (mj hR).1 (mj hR).2,fun id hid=>sM hR (by simpa only[V.has]using hid)⟩⟩;simp only[cj,U1,cond_true];rw[BY (by simp),qD fun x hx=>hf x (by simpa[Op.operands]using hx)]
   ·rename_i XS;split at h
    ·rename_i hcp;have hc0:caps= #[]:=by simpa using hcp
     subst hc0;refine⟨_,_,_,_,h,.read (fun f2 m2 hf hm R' k'=>?_) fun w0 μ φ a w hR=>⟨.func (.func g) (first.map a.eval) #[],by simp[execOp,Instr.makeFunc],by rw[←XQ];exact .fn (mj hR).1 (mj hR).2,fun id hid=>sM hR (by simpa only[V.has]using hid)⟩⟩;simp only[cj,U1,cond_true];rw[IT XS,BY (by simp),qD fun x hx=>hf x (by simpa[Op.operands]using hx)]
    ·cases h
  all_goals (cases h)
 case slice t x lo hi mx=>
  obtain⟨v,ft,v1,v2,v3,v4,v6⟩:=UC h;have hlo:∀f2:Fr,(∀y∈(Op.slice t x lo hi mx).operands,bF E f2 y=bF E f y)→lo.map (bF E f2)=lo.map (bF E f)∧hi.map (bF E f2)=hi.map (bF E f)∧mx.map (bF E f2)=mx.map (bF E f):=fun f2 hf=>by
   refine⟨?_,?_,?_⟩
   ·cases lo with
    |none=>rfl
    |some y=>simp only[No];rw[hf y (by simp[Op.operands])]
   ·cases hi with
    |none=>rfl
    |some y=>simp only[No];rw[hf y (by simp[Op.operands])]
   ·cases mx with
    |none=>rfl
    |some y=>simp only[No];rw[hf y (by simp[Op.operands])]
  refine⟨_,_,_,_,v2,.read (fun f2 m2 hf hm R' k'=>by simp only[cj];rw[hf x (by simp[Op.operands]),(hlo f2 hf).1,(hlo f2 hf).2.1,(hlo f2 hf).2.2];exact v1 m2 hm _ _) fun w0 μ φ a w hR=>?_⟩;obtain⟨z,z1,z2⟩:=v6 _ _ μ φ w (a.eval x) (lo.map a.eval) (hi.map a.eval) (mx.map a.eval) hR.toaG (ax hR x).1 (fun v hv=>by
   obtain⟨y,rfl,rfl⟩:=ae0.1 hv;exact⟨_,rfl,(ax hR y).1⟩) (fun hv=>by cases lo<;>simp at hv⊢) (fun v hv=>by
   obtain⟨y,rfl,rfl⟩:=ae0.1 hv;exact⟨_,rfl,(ax hR y).1⟩) (fun hv=>by cases hi<;>simp at hv⊢) (fun v hv=>by
   obtain⟨y,rfl,rfl⟩:=ae0.1 hv;exact⟨_,rfl,(ax hR y).1⟩) (fun hv=>by cases mx<;>simp at hv⊢)
  exact⟨z,by simp[execOp,z1],z2,fun id hid=>(ax hR x).2 id (v4 id hid)⟩
 case buildSlice t len parts=>
  split at h
  ·rename_i e hu;split at h
   ·rename_i WK;split at h
    ·rename_i cs pQ;split at h
     ·rename_i hc;obtain⟨hlen,wq,Ea,SI⟩:=hc;obtain⟨zc,WM⟩:=anK.1 SI;obtain⟨iz,zv,z1,z2,z3,_⟩:=dC WM;obtain⟨p1,p2,p3⟩:=J5 pQ;obtain⟨f',m',hn,hk,yI,AP,xh⟩:=ck h;refine⟨_,_,_,_,hk,.make (b:=.box cs) AP (fun _ f2 m2 hf hs R' k'=>by have U0:(parts.toList.map fun(x:Nat×Operand)=>(x.1,bF E f2 x.2))=parts.toList.map fun(x:Nat×Operand)=>(x.1,bF E f x.2):=uJ fun x hx=>hf x.2 (by simp only[Op.operands,apB,anG];exact⟨x,hx,rfl⟩);simp only[cj,hu,WK,IS];rw[U0];simp only[pQ];rw[BY ⟨hlen,wq,Ea,SI⟩];simp only[fresh,hs]) fun w0 μ φ a w hR=>?_⟩;have Hg:parts.toList.length=len:=by rw[←hlen];simp
      have qB:cs.length=len:=by rw[p1];simp[←Hg]
      have NY:∃c0:Array Value,c0.size=0+parts.toList.length∧∀cells,Instr.fill (fun i=>some (i*1,1)) c0 (parts.map fun(i,x)=>(i,a.eval x)).toList=some cells→(Instr.buildSlice t len (parts.map fun(i,x)=>(i,a.eval x))).run E.P w=.ok (.slice (some ⟨w.heap.size,0,none⟩) len len) (w.alloc (.cells cells e)):=by
       by_cases h0:len*aW E.P e=0
       ·have Nc:len=0:=by rw[wq]at h0;omega
        refine⟨#[],by simp[Hg,Nc],fun cells hf=>?_⟩;subst Nc;have JT:parts= #[]:=by apply ao7;simpa using anF Hg
        subst JT;have hf':cells= #[]:=by simpa[Instr.fill]using hf.symm
        subst hf';simp[Instr.buildSlice,run_underlying hu,sizeOf,typeInfo,z1,newRow,Instr.fill,Array.range_zero']
       ·refine⟨(Array.range (len*aW E.P e)).map (zv.cells[·%zv.cells.size]!),by simp[Hg,wq],fun cells hf=>?_⟩;exact run_buildSlice w t e len _ cells iz zv hu z1 z2 (by rw[z3,wq];omega) (by rw[z3];exact h0) (by rw[z3];simp only[wq]at hf⊢;exact hf)
      obtain⟨c0,c1,c2⟩:=NY;obtain⟨c',d1,d2,d3,d4⟩:=p3 E.P μ φ (parts.map fun(i,x)=>(i,a.eval x)).toList c0 (by simp) (fun j i v hj=>by simp only[AT,ae0]at hj;obtain⟨y,hy,he⟩:=hj;simp only[T0]at he;obtain⟨rfl,rfl⟩:=he;exact⟨a.eval y.2,by simp[hy],(ax hR y.2).1⟩) (by rw[c1];simp);have n9:c'.size=cs.length:=by rw[d2,c1,qB];omega
      have eE:∀(i:Nat)u y,cs[i]?=some u→c'[i]?=some y→aq E.P μ φ u y∧y.oneCell'=true:=fun i u y hu hy=>by obtain⟨z,e1,e2,e3⟩:=d4 i u hu;rw[aoy,hy]at e1;cases e1;exact⟨e2,e3⟩
      obtain⟨φ',a1,a2,a3⟩:=xh E.P E.aF w0 μ φ w (w.alloc (.cells c' e)) _ (EY (some w.heap.size) len cs.length 1) hR.toaG hR.kT (lW.alloc (o:=.cells c' e) hR.toaG rfl (fun φ' hp Qg=>⟨w.heap.size,c',e,by rw[hp],fV w _,n9,fun i u y hu hy=>(eE i u y hu hy).1.mono (fun _ _ h=>h) fun id hid=>Qg id (bO (amq hu) hid),fun i y hy=>by
       have bK:=(adW.1 hy).1;have hu:cs[i]?=some (cs[i]'(by omega)):=ta (by omega);exact(eE i _ y hu hy).2,by rw[hp]⟩) (fun id hid=>by
       have h5:=p2 id hid;rw[ao8]at h5;obtain⟨u,hu,hh⟩:=cT.1 h5;obtain⟨y,hy,rfl⟩:=anG.1 hu;exact(ax hR y.2).2 id hh))
      refine⟨.slice (some ⟨w.heap.size,0,none⟩) len len,w.alloc (.cells c' e),μ,φ',by simp only[execOp,Sem.run_bind,c2 c' d1,Result.andThen_ok,Sem.run_pure],a2,a3,?_,fun id hid=>?_⟩
      ·have:=aq.os (P:=E.P) (μ:=μ) (φ:=φ') (id:=site) (g:=w.heap.size) (by rw[a1]);rw[a1,qB]at this;exact this
      ·have hid:=K5 hid;subst hid;simp[yI]
     ·cases h
    ·cases h
   rename_i alm;have hnf:Ss E e=false:=by simpa using alm
   split at h
   ·rename_i hfz;split at h
    ·rename_i es m1 NW;split at h
     ·rename_i hc;obtain⟨hlen,eO,Ea,SI⟩:=hc;obtain⟨zc,WM⟩:=anK.1 SI;obtain⟨iz,zv,z1,z2,z3,_⟩:=dC WM;have hpm:=(tw NW).2 m;obtain⟨p1,p2,p3⟩:=vt hpm;refine⟨_,_,_,_,h,⟨fun hd=>⟨rfl,[],rfl,by simp,fun f2 m2 hf _ R' k'=>?_⟩,fun _ _=>⟨rfl,rfl⟩,fun w0 μ φ a w K Q hR hK=>?_⟩⟩
      ·have U0:(parts.toList.map fun(x:Nat×Operand)=>(x.1,bF E f2 x.2))=parts.toList.map fun(x:Nat×Operand)=>(x.1,bF E f x.2):=uJ fun x hx=>hf x.2 (by simp only[Op.operands,apB,anG];exact⟨x,hx,rfl⟩);simp only[cj,hu,hnf,tc,PS,hfz,IS];rw[U0];simp only[NW];rw[BY ⟨hlen,eO,Ea,SI⟩];rfl
      have Hg:parts.toList.length=len:=by rw[←hlen,p2];simp
      have NY:∃c0:Array Value,c0.size=(0+parts.toList.length)*aW E.P e∧∀cells,Instr.fill (fun i=>some (i*aW E.P e,aW E.P e)) c0 (parts.map fun(i,x)=>(i,a.eval x)).toList=some cells→(Instr.buildSlice t len (parts.map fun(i,x)=>(i,a.eval x))).run E.P w=.ok (.slice (some ⟨w.heap.size,0,none⟩) len len) (w.alloc (.cells cells e)):=by
       by_cases h0:len*aW E.P e=0
       ·have Nc:len=0:=by rcases Nat.mul_eq_zero.1 h0 with h|h<;>omega
        refine⟨#[],by simp[Hg,Nc],fun cells hf=>?_⟩;subst Nc;have JT:parts= #[]:=by apply ao7;simpa using anF Hg
        subst JT;have hf':cells= #[]:=by simpa[Instr.fill]using hf.symm
        subst hf';simp[Instr.buildSlice,run_underlying hu,sizeOf,typeInfo,z1,newRow,Instr.fill,Array.range_zero']
       ·refine⟨(Array.range (len*aW E.P e)).map (zv.cells[·%zv.cells.size]!),by simp[Hg],fun cells hf=>?_⟩;exact run_buildSlice w t e len _ cells iz zv hu z1 z2 (by rw[z3];omega) (by rw[z3];exact h0) (by rw[z3];exact hf)
      obtain⟨c0,c1,c2⟩:=NY;obtain⟨μ',c',d1,d2,d3,d4,d5⟩:=p3 E.P E.aF w0 μ φ w (parts.map fun(i,x)=>(i,a.eval x)).toList [] c0 hR.toaG (by simp) (fun j i v hj=>by simp only[AT,ae0]at hj;obtain⟨y,hy,he⟩:=hj;simp only[T0]at he;obtain⟨rfl,rfl⟩:=he;exact⟨a.eval y.2,by simp[hy],(ax hR y.2).1⟩) rfl (by simpa using c1) (by simpa using Cells.nil);simp only[aoT]at d5;have hb:lr w.heap.size w (w.alloc (.cells c' e)):=(lr.refl _ w).alloc (anz _) _;have hA:aP E.P μ' (fun _=>EY (some w.heap.size) len es.length (aW E.P e)) (w.alloc (.cells c' e)) 0 (aW E.P e) e es:=aP.re (g:=w.heap.size) rfl rfl eO (by simp only[maxLen,EY];have:len*1≤len*aW E.P e:=aoV _ eO;omega) (fV w _) (by simp only[EY];rw[d4];simp[←Hg]) (by simp only[EY];omega) (by have h1:=d5.len;rw[anZ (by rw[h1];exact anz _)];exact d5);have uI:=lz d2 (w.alloc (.cells c' e));have hV:=hA.Lp (g:=w.heap.size) rfl (lo:=0) (len:=len) (by omega) (cap:=len) (by simp only[EY];omega) (anz _) uI (by simp[cF]);rw[aqV,ap9,anZ (by omega)]at hV;exact fY (by simp only[execOp,Sem.run_bind,c2 c' d3,Result.andThen_ok,Sem.run_pure]) (hK _ _ _ φ (d2.called hb) ((hR.kT.oA d1 p1).oA uI (.refl _)) (.pv hV) (fun id hid=>by cases hid))
     ·cases h
    ·cases h
   rename_i aln;split at h
   ·rename_i es m1 NW;split at h
    ·rename_i hc;obtain⟨hlen,eO,Ea,SI⟩:=hc;obtain⟨zc,WM⟩:=anK.1 SI;obtain⟨iz,zv,z1,z2,z3,_⟩:=dC WM;have hmm:∃mm,mm=(if draw then m else m1)∧fB m (aW E.P e) (aJ E.P e) 0 (parts.toList.map fun(i,x)=>(i,bF E f x))=some (es,mm):=by
      cases draw with
      |true=>exact⟨m,rfl,(tw NW).2 m⟩
      |false=>exact⟨m1,rfl,NW⟩
     obtain⟨mm,hme,hpm⟩:=hmm;rw[←hme]at h;obtain⟨p1,p2,p3⟩:=vt hpm;obtain⟨f',m',hn,hk,yI,AP,xh⟩:=ck h;refine⟨_,_,_,_,hk,.make (b:=.arr (aW E.P e) e es) (fun hd=>by
      have:=AP hd;rw[hd]at hme;simp only[IS]at hme;rw[hme]at this;exact this) (fun hd f2 m2 hf hs R' k'=>by
      subst hd;have U0:(parts.toList.map fun(x:Nat×Operand)=>(x.1,bF E f2 x.2))=parts.toList.map fun(x:Nat×Operand)=>(x.1,bF E f x.2):=uJ fun x hx=>hf x.2 (by simp only[Op.operands,apB,anG];exact⟨x,hx,rfl⟩);simp only[cj,hu,hnf,tc,PS,aln,IS];rw[U0];simp only[IS]at NW;simp only[NW];rw[BY ⟨hlen,eO,Ea,SI⟩];simp only[fresh,hs]) fun w0 μ φ a w hR=>?_⟩
     have Hg:parts.toList.length=len:=by rw[←hlen,p2];simp
     have NY:∃c0:Array Value,c0.size=(0+parts.toList.length)*aW E.P e∧∀cells,Instr.fill (fun i=>some (i*aW E.P e,aW E.P e)) c0 (parts.map fun(i,x)=>(i,a.eval x)).toList=some cells→(Instr.buildSlice t len (parts.map fun(i,x)=>(i,a.eval x))).run E.P w=.ok (.slice (some ⟨w.heap.size,0,none⟩) len len) (w.alloc (.cells cells e)):=by
      by_cases h0:len*aW E.P e=0
      ·have Nc:len=0:=by rcases Nat.mul_eq_zero.1 h0 with h|h<;>omega
       refine⟨#[],by simp[Hg,Nc],fun cells hf=>?_⟩;subst Nc;have JT:parts= #[]:=by apply ao7;simpa using anF Hg
       subst JT;have hf':cells= #[]:=by simpa[Instr.fill]using hf.symm
       subst hf';simp[Instr.buildSlice,run_underlying hu,sizeOf,typeInfo,z1,newRow,Instr.fill,Array.range_zero']
      ·refine⟨(Array.range (len*aW E.P e)).map (zv.cells[·%zv.cells.size]!),by simp[Hg],fun cells hf=>?_⟩;exact run_buildSlice w t e len _ cells iz zv hu z1 z2 (by rw[z3];omega) (by rw[z3];exact h0) (by rw[z3];exact hf)
     obtain⟨c0,c1,c2⟩:=NY;obtain⟨μ',c',d1,d2,d3,d4,d5⟩:=p3 E.P E.aF w0 μ φ w (parts.map fun(i,x)=>(i,a.eval x)).toList [] c0 hR.toaG (by simp) (fun j i v hj=>by simp only[AT,ae0]at hj;obtain⟨y,hy,he⟩:=hj;simp only[T0]at he;obtain⟨rfl,rfl⟩:=he;exact⟨a.eval y.2,by simp[hy],(ax hR y.2).1⟩) rfl (by simpa using c1) (by simpa using Cells.nil);simp only[aoT]at d5;obtain⟨φ',a1,a2,a3⟩:=xh E.P E.aF w0 μ' φ w _ _ (EY (some w.heap.size) len es.length (aW E.P e)) d2 (hR.kT.oA d1 p1) (lW.alloc (o:=.cells c' e) d2 rfl (fun φ' hp _=>aP.re (g:=w.heap.size) (by rw[hp]) rfl eO (by rw[hp];simp only[maxLen];have:len*1≤len*aW E.P e:=aoV _ eO;omega) (fV w _) (by rw[hp,d4];simp[←Hg]) (by rw[hp];simp[hlen]) (by have h1:=d5.len;rw[anZ (by rw[h1];exact anz _)];exact d5)) (by simp[bI.names]));refine⟨.slice (some ⟨w.heap.size,0,none⟩) len len,w.alloc (.cells c' e),μ',φ',by simp only[execOp,Sem.run_bind,c2 c' d3,Result.andThen_ok,Sem.run_pure],a2,a3,?_,fun id hid=>?_⟩
     ·have:=aq.os (P:=E.P) (μ:=μ') (φ:=φ') (id:=site) (g:=w.heap.size) (by rw[a1]);rw[a1,hlen]at this;exact this
     ·have hid:=K5 hid;subst hid;simp[yI]
    ·cases h
   ·cases h
  ·cases h
 case call c=>exact absurd rfl (hc c)
 case range t x=>cases hit
 case next x s=>cases hit
 case entry x=>cases hit
 all_goals (cases h)
variable{dst:Option Nat}{after:Array Edge}{guard:Option (Nat×Bool)}
theorem XT(hE:jR E){callee:Callee}{argTypes:Array TypeId}{type:TypeId}{pos:String}(h:cj E draw site ⟨dst,.call ⟨callee,args,argTypes⟩,type,pos,after,guard⟩ f m k=some r):(∃v f' m' ft,k v f' m' ft=some r∧xv E draw site ⟨dst,.call ⟨callee,args,argTypes⟩,type,pos,after,guard⟩ f m v f' m' ft)∨(draw=false∧Hj E ⟨dst,.call ⟨callee,args,argTypes⟩,type,pos,after,guard⟩ f m k r):=by
 unfold cj at h;simp only at h;have tu:∀f2:Fr,(∀x∈(Op.call ⟨callee,args,argTypes⟩).operands,bF E f2 x=bF E f x)→args.toList.map (bF E f2)=args.toList.map (bF E f):=fun f2 hf=>qD fun x hx=>hf x (by simp_all[Op.operands,Call.operands]);have kL:=fun{w0 μ φ a w}(hR:Rel E.P E.aF E.fn.ntmps w0 μ φ f m a w)=>mj hR (args:=args);have known:∀(g:FuncId)(vs:List V),yo E draw site g vs f m k=some r→(∀w0 μ φ a w,Rel E.P E.aF E.fn.ntmps w0 μ φ f m a w→∃xs,(execOp a.eval ⟨dst,.call ⟨callee,args,argTypes⟩,type,pos,after,guard⟩).run E.P w=(callFunc g xs).run E.P w∧vs.length=xs.size∧(∀(i:Nat)v x,vs[i]?=some v→xs[i]?=some x→aq E.P μ φ v x)∧∀id,cq id vs=true→(m id).isSome=true)→(∀(f2:Fr)(m2:Mem),(∀x∈(Op.call ⟨callee,args,argTypes⟩).operands,bF E f2 x=bF E f x)→∀(R':Type)(k':V→Fr→Mem→bx→Option R'),cj E true site ⟨dst,.call ⟨callee,args,argTypes⟩,type,pos,after,guard⟩ f2 m2 k'=yo E true site g vs f2 m2 k')→(∃v f' m' ft,k v f' m' ft=some r∧xv E draw site ⟨dst,.call ⟨callee,args,argTypes⟩,type,pos,after,guard⟩ f m v f' m' ft)∨(draw=false∧Hj E ⟨dst,.call ⟨callee,args,argTypes⟩,type,pos,after,guard⟩ f m k r):=by
  intro g vs hx vk QD;obtain h0|⟨AP,⟨fn,c,f1,f2,f3⟩,k5⟩:=XF hE hx;rotate_left
  ·refine .inr ⟨AP,And.intro (fun c x y h=>by cases h) fun rd w0 μ φ a w K Q _ hR hK=>Eb (fun c h=>by cases h) ?_⟩;obtain⟨xs,x1,x2,x3,x4⟩:=vk w0 μ φ a w hR;unfold Oper.wp;rw[x1,As f1 f3 f2];rw[Oper.upon_enter];refine(k5 w0 μ φ _ w xs hR.toaG hR.kT x2 x3 x4).mono ?_;grind
  obtain⟨v,f',m',ft,k1,k2,ks,⟨fn,c,f1,f2,f3⟩,k5⟩:=h0;refine .inl ⟨v,f',m',ft,k1,⟨fun hd=>?_,fun _ h=>ks h,fun w0 μ φ a w K Q hR hK=>?_⟩⟩
  ·obtain⟨d1,wr,d2,d3,d4⟩:=k2 hd;exact⟨d1,wr.toList,by rw[d2];cases wr<;>rfl,fun x hx=>(by grind),fun f2 m2 hf hm R' k'=>by rw[QD f2 m2 hf,d4 f2 m2 hm R' k'];cases wr<;>rfl⟩
  ·obtain⟨xs,x1,x2,x3,x4⟩:=vk w0 μ φ a w hR;unfold Oper.wp;rw[x1,As f1 f3 f2];rw[Oper.upon_enter];refine(k5 w0 μ φ _ w xs hR.toaG hR.kT x2 x3 x4).mono ?_;grind
 have read:∀{v:V}{ft:bx},k v f m ft=some r→(∀(f2:Fr)(m2:Mem),(∀x∈(Op.call ⟨callee,args,argTypes⟩).operands,bF E f2 x=bF E f x)→(∀x∈ft,m2 x.2=m x.2)→∀(R':Type)(k':V→Fr→Mem→bx→Option R'),cj E true site ⟨dst,.call ⟨callee,args,argTypes⟩,type,pos,after,guard⟩ f2 m2 k'=k' v f2 m2 ft)→(∀w0 μ φ a w,Rel E.P E.aF E.fn.ntmps w0 μ φ f m a w→∃y,(execOp a.eval ⟨dst,.call ⟨callee,args,argTypes⟩,type,pos,after,guard⟩).run E.P w=.ok (.value y) w∧aq E.P μ φ v y∧∀id,v.has id=true→(m id).isSome=true)→(∃v f' m' ft,k v f' m' ft=some r∧xv E draw site ⟨dst,.call ⟨callee,args,argTypes⟩,type,pos,after,guard⟩ f m v f' m' ft)∨(draw=false∧Hj E ⟨dst,.call ⟨callee,args,argTypes⟩,type,pos,after,guard⟩ f m k r):=fun hk hn hs=>.inl ⟨_,_,_,_,hk,.read hn hs⟩;have one:∀{l:List Operand}{u:V},l.map (bF E f)=[u]→∃x,l=[x]∧u=bF E f x:=by simp_all
 have two:∀{l:List Operand}{u v:V},l.map (bF E f)=[u,v]→∃x y,l=[x,y]∧u=bF E f x∧v=bF E f y:=by
  intro l u v h;match l with
  |[]=>simp at h
  |[x]=>simp at h
  |[x,y]=>grind
  |_::_::_::_=>simp at h
 have four:∀{l:List Operand}{u1 u2 u3 u4:V},l.map (bF E f)=[u1,u2,u3,u4]→∃x y z t,l=[x,y,z,t]∧u1=bF E f x∧u2=bF E f y∧u3=bF E f z∧u4=bF E f t:=by
  intro l u1 u2 u3 u4 h;match l with
  |[]=>simp at h
  |[x]=>simp at h
  |[x,y]=>simp at h
  |[x,y,z]=>simp at h
  |[x,y,z,t]=>grind
  |_::_::_::_::_::_=>simp at h
 have AR:∀{A:Type}{xs:Array A}{x:A},xs.toList=[x]→xs= #[x]:=fun h=>ao7 (by omega);have XU:∀{A:Type}{xs:Array A}{x y:A},xs.toList=[x,y]→xs= #[x,y]:=fun h=>ao7 (by omega);split at h
 ·rename_i u hu;obtain⟨x,hx,rfl⟩:=one hu;split at h
  ·rename_i t ht;obtain⟨v,ft,v1,v2,v3,v4,v5⟩:=acK h;refine read v2 (fun f2 m2 hf hm R' k'=>?_) (fun w0 μ φ a w hR=>?_)
   ·grind [cj]
   ·have e1:=AR hx;have e2:=AR ht;subst e1;subst e2;obtain⟨z,z1,z2⟩:=v5 _ _ μ φ w _ type hR.toaG (ax hR x).1 (ax hR x).2;exact⟨z,by simp[execOp,resolve,invoke,builtin,z1],z2,fun id hid=>by grind⟩
  ·cases h
 ·rename_i u u' hu;obtain⟨x,y,hx,rfl,rfl⟩:=two hu;split at h
  ·rename_i t t' ht;obtain⟨hd,ht',place,f',m',k1,k2,k3⟩:=QC h;subst ht';refine .inl ⟨_,_,_,_,k1,⟨fun WR=>(by grind),fun h _=>by(simp[fI]at h),fun w0 μ φ a w K Q hR hK=>?_⟩⟩;have e1:=XU hx;have e2:=XU ht;subst e1;subst e2;obtain⟨w',z,φ',z1,z2,z3,z4⟩:=k3 _ w0 μ φ w (bV E.fn.ntmps w0 a) _ _ type hR.toaG hR.kT (ax hR x).1 (ax hR y).1;exact fY (y:=z) (w':=w') (by simp[execOp,resolve,invoke,builtin,z1]) (hK z w' μ φ' z2 z3 z4 fun id hid=>by have hid:=K5 hid;subst hid;omega)
  ·cases h
 ·rename_i u u' hu;obtain⟨x,y,hx,rfl,rfl⟩:=two hu;split at h
  ·rename_i t ts ht;obtain⟨n,id,b,ft,c1,c2,c3⟩:=XB h;refine .inl ⟨_,_,_,_,c2,⟨fun hd=>⟨rfl,[(id,b)],rfl,by simp,fun f2 m2 hf hm R' k'=>?_⟩,fun h _=>by(simp[fI]at h),fun w0 μ φ a w K Q hR hK=>?_⟩⟩
   ·simp only[cj,tu f2 hf,hu,ht];exact c1 m2 hm _ _
   ·have e1:=XU hx;subst e1;have e2:argTypes=(t::ts).toArray:=ao7 (by omega);subst e2;obtain⟨w',φ',z1,z2,z3,z4⟩:=c3 _ w0 μ φ w (bV E.fn.ntmps w0 a) f _ _ ts type hR.toaG hR.kT (ax hR x).1 (ax hR y).1;exact fY (y:=.int .i64 n) (w':=w') (by simp only[execOp,resolve,invoke,builtin,Sem.run_bind,Sem.run_pure,Result.andThen_ok];rw[show(#[x,y].map a.eval)= #[a.eval x,a.eval y] by simp,z1];rfl) (hK _ w' μ φ' z2 z3 (.pv (.int z4)) (by simp))
  ·cases h
 ·rename_i u hu;obtain⟨x,hx,rfl⟩:=one hu;split at h
  ·rename_i t ts ht;obtain⟨id,b,c1,c2,c3⟩:=UL h;refine .inl ⟨_,_,_,_,c2,⟨fun hd=>⟨rfl,[(id,b)],rfl,by simp,fun f2 m2 hf hm R' k'=>?_⟩,fun h _=>by(simp[fI]at h),fun w0 μ φ a w K Q hR hK=>?_⟩⟩
   ·simp only[cj,tu f2 hf,hu,ht];exact c1 m2 (hm (true,id) (by simp)) _ _
   ·have e1:=AR hx;subst e1;have e2:argTypes=(t::ts).toArray:=ao7 (by omega);subst e2;obtain⟨w',z1,z2,z3⟩:=c3 _ w0 μ φ w (bV E.fn.ntmps w0 a) f _ ts type hR.toaG hR.kT (ax hR x).1;exact fY (y:=.tuple #[]) (w':=w') (by simp only[execOp,resolve,invoke,builtin,Sem.run_bind,Sem.run_pure,Result.andThen_ok];rw[show(#[x].map a.eval)= #[a.eval x] by simp,z1];rfl) (hK _ w' μ φ z2 z3 .top (by simp))
  ·cases h
 ·rename_i u u' hu;obtain⟨x,y,hx,rfl,rfl⟩:=two hu;obtain⟨q,q1,q2,q3⟩:=Xv h;refine read q2 (fun f2 m2 hf hm R' k'=>?_) (fun w0 μ φ a w hR=>?_)
  ·grind [cj]
  ·have e1:=XU hx;subst e1;obtain⟨z,z1,z2⟩:=q3 E.P μ φ w _ _ (ax hR x).1 (ax hR y).1;exact⟨z,by simp[execOp,resolve,invoke,builtin,Builtin.min_,z1],.pv z2,by simp⟩
 ·rename_i u u' hu;obtain⟨x,y,hx,rfl,rfl⟩:=two hu;obtain⟨q,q1,q2,q3⟩:=CJ h;refine read q2 (fun f2 m2 hf hm R' k'=>?_) (fun w0 μ φ a w hR=>?_)
  ·grind [cj]
  ·have e1:=XU hx;subst e1;obtain⟨z,z1,z2⟩:=q3 E.P μ φ w _ _ (ax hR x).1 (ax hR y).1;exact⟨z,by simp[execOp,resolve,invoke,builtin,Builtin.max_,z1],.pv z2,by simp⟩
 ·rename_i u1 u2 u3 u4 hu;obtain⟨x,y,z,t,hx,rfl,rfl,rfl,rfl⟩:=four hu;obtain⟨q,q1,q2,q3⟩:=Xw h;refine read q2 (fun f2 m2 hf hm R' k'=>?_) (fun w0 μ φ a w hR=>?_)
  ·grind [cj]
  ·have e1:args= #[x,y,z,t]:=ao7 (by omega);subst e1;obtain⟨v1,v2,v3,z1,z2,z3,z4⟩:=q3 E.P μ φ w _ _ _ _ (ax hR x).1 (ax hR y).1 (ax hR z).1 (ax hR t).1;exact⟨v3,by simp[execOp,resolve,invoke,builtin,Builtin.max_,z1,z2,z3],.pv z4,by simp⟩
 ·rename_i _ g;refine known g _ h (fun w0 μ φ a w hR=>⟨args.map a.eval,?_,(mj hR).1,(mj hR).2,fun id hid=>sM hR hid⟩) (fun f2 m2 hf R' k'=>?_)
  ·simp[execOp,resolve,Deferred.ofValue,invoke,Act.eval]
  ·simp only[cj,tu f2 hf]
 ·rename_i _ tm;split at h
  ·rename_i g caps su;refine known (yq g) _ h (fun w0 μ φ a w hR=>?_) (fun f2 m2 hf R' k'=>?_)
   ·have h1:=(ax hR (.tmp tm)).1;rw[su]at h1;have hlc:=(ax hR (.tmp tm)).2;rw[su]at hlc;generalize hy:a.eval (.tmp tm)=y at h1;cases h1 with
    | @fn _ _ xs c1 c2=>
     obtain⟨o1,o2⟩:=mj hR (args:=args);obtain⟨b1,b2⟩:=SR (g:=g) (by simp) o2 c1 c2;refine⟨CP g xs (args.map a.eval),?_,b1,b2,fun id hid=>?_⟩
     ·cases e:Nat.blt g Gp with
      |true=>rw[sY e]at hy;simp[execOp,resolve,Deferred.ofValue,invoke,hy,yq,CP,e]
      |false=>rw[NG e]at hy;simp[execOp,resolve,Deferred.ofValue,invoke,hy,yq,CP,e]
     ·obtain⟨v,hv,hh⟩:=cT.1 hid;rcases XP hv with hv|hv
      ·exact sM hR (cT.2 ⟨v,hv,hh⟩)
      ·exact hlc id (by simp only[V.has];exact cT.2 ⟨v,hv,hh⟩)
   ·have:=hf (.tmp tm) (by simp[Op.operands,Call.operands]);simp only[cj,tu f2 hf,this,su]
  ·rename_i g caps su;refine known (yq g) _ h (fun w0 μ φ a w hR=>?_) (fun f2 m2 hf R' k'=>?_)
   ·have h1:=(ax hR (.tmp tm)).1;rw[su]at h1;generalize hy:a.eval (.tmp tm)=y at h1;cases h1 with
    |pv h1=>cases h1 with
     | @fn _ _ xs c1 c2=>
      obtain⟨o1,o2⟩:=mj hR (args:=args);obtain⟨b1,b2⟩:=SR (g:=g) (caps:=caps.map .pv) (xs:=xs) (by simp) o2 (by simpa using c1) (fun i v x hv hx=>by simp only[AT,ae0]at hv;obtain⟨q,hq,rfl⟩:=hv;exact .pv (c2 _ q x hq hx));refine⟨CP g xs (args.map a.eval),?_,b1,b2,fun id hid=>?_⟩
      ·cases e:Nat.blt g Gp with
       |true=>rw[sY e]at hy;simp[execOp,resolve,Deferred.ofValue,invoke,hy,yq,CP,e]
       |false=>rw[NG e]at hy;simp[execOp,resolve,Deferred.ofValue,invoke,hy,yq,CP,e]
      ·obtain⟨v,hv,hh⟩:=cT.1 hid;rcases XP hv with hv|hv
       ·exact sM hR (cT.2 ⟨v,hv,hh⟩)
       ·obtain⟨q,_,rfl⟩:=anG.1 hv;cases hh
   ·have:=hf (.tmp tm) (by simp[Op.operands,Call.operands]);simp only[cj,tu f2 hf,this,su]
  ·rename_i id su;split at h
   ·cases h
   ·rename_i AP;refine .inr ⟨by simpa using AP,And.intro (fun c x y h=>by cases h) fun rd w0 μ φ a w K Q hY hR hK=>?_⟩;have h1:=(ax hR (.tmp tm)).1;rw[su]at h1;generalize hy:a.eval (.tmp tm)=y at h1;cases h1 with
    | @yl _ g hg=>
     obtain⟨o1,o2⟩:=mj hR (args:=args);obtain⟨fn,tmps,assign,body,y1,y2⟩:=hY w0.hid _ _ _ _ _ _ _ _ h μ φ (bV E.fn.ntmps w0 a) w (args.map a.eval) hR.toaG hR.kT (fun t ht=>by unfold bV;rw[IT (by omega)]) o1 o2 (fun id hid=>sM hR hid) g hg;refine⟨fun _ _=>trivial,?_⟩;rw[Oper.semAt_eq _ _ _ (fun c h=>by cases h)];have vk:(execOp a.eval ⟨dst,.call ⟨.value (.tmp tm),args,argTypes⟩,type,pos,after,guard⟩).run E.P w=.ok (.round g fn tmps assign body) w:=by simp only[execOp,resolve,Deferred.ofValue,hy];simpa[invoke]using y1
     rw[vk,Oper.uponIn_round];refine⟨fun h=>(by cases h),(FR.acU y2).mono ?_⟩;rintro e w' ⟨v,f',m',y,μ',φ',h0,rfl,_,h1,h2,h3,h4⟩;exact hK v f' m' y w' μ' φ' h0 h1 h2 h3 h4
  ·cases h
 ·cases h
theorem NZ{a b:Option R}(h:agree a b=some r):a=some r∧b=some r:=by
 unfold agree at h;split at h
 ·rename_i e;exact⟨h,by rw[←e];exact h⟩
 ·cases h
theorem U6{op:BinOp}{t:TypeId}{es:List PV}{k:Bool→Option R}(h:Qo E op t es k=some r):∃e,E.P.underlying t=some (.slice e)∧((op=.eql∧∀b,(b=true→es=[])→k b=some r)∨(op=.neq∧∀b,(b=false→es=[])→k b=some r)):=by
 unfold Qo at h;split at h
 ·rename_i e hu;refine⟨e,hu,.inl ⟨rfl,fun b hb=>?_⟩⟩;split at h
  ·obtain⟨h1,h2⟩:=NZ h;cases b<;>assumption
  ·rename_i cy;cases b with
   |true=>exact absurd (by simp[hb rfl]) cy
   |false=>exact h
 ·rename_i e hu;refine⟨e,hu,.inr ⟨rfl,fun b hb=>?_⟩⟩;split at h
  ·obtain⟨h1,h2⟩:=NZ h;cases b<;>assumption
  ·rename_i cy;cases b with
   |false=>exact absurd (by simp[hb rfl]) cy
   |true=>exact h
 ·cases h
theorem acW{op:BinOp}{t:TypeId}{x y:Operand}{ty type:TypeId}{pos:String}{s:Nat}{es:List PV}(h:cj E draw site ⟨dst,.binOp op t x y ty,type,pos,after,guard⟩ f m k=some r)(hx:bF E f x=.pv (.rs s es))(hy:bF E f y=.gy):draw=false∧Hj E ⟨dst,.binOp op t x y ty,type,pos,after,guard⟩ f m k r:=by
 simp only[cj,hx,hy]at h;split at h
 ·cases h
 ·rename_i hd;refine⟨by simpa using hd,And.intro (fun c x y h=>by cases h) fun rd w0 μ φ a w K Q _ hR hK=>Eb (fun c h=>by cases h) ?_⟩;obtain⟨e,hu,hk⟩:=U6 h;have h1:=(ax hR x).1;have h2:=(ax hR y).1;rw[hx]at h1;rw[hy]at h2;generalize hvx:a.eval x=vx at h1;generalize hvy:a.eval y=vy at h2;have I5:∃(ad:Option Addr)(n c:Nat),vx=.slice ad n c∧(ad=none→es=[]):=by
   cases h1 with
   |pv h1=>
    cases h1 with
    |lV=>exact⟨none,0,0,rfl,fun _=>rfl⟩
    |M9 _=>exact⟨_,_,_,rfl,fun _=>rfl⟩
    |rs _ _ _ _ _ _ _=>exact⟨_,_,_,rfl,fun h=>by cases h⟩
  obtain⟨ad,n,c,rfl,afk⟩:=I5;cases h2;have go:∀b,(binOp op t (.slice ad n c) (.slice none 0 0)).run E.P w=.ok (.bool b) w→k (.pv (.bool b)) f m [(true,0)]=some r→(⟨dst,.binOp op t x y ty,type,pos,after,guard⟩:Oper).wp E.P a w K Q:=fun b hb hkb=>by refine fY (y:=.bool b) (w':=w) ?_ (hK _ _ _ _ _ _ _ hkb hR.toaG hR.kT (.pv .bool) (by simp));simp only[execOp,eqGuard_at_slice,Sem.run_bind,Sem.run_pure,hvx,hvy,Result.andThen_ok];rw[hb];rfl
  rcases hk with⟨rfl,hk⟩|⟨rfl,hk⟩
  ·refine go ad.isNone (Lib.run_eql_slice_nil w t e ad n c 0 0 hu) (hk _ fun hb=>afk (by simpa using hb))
  ·refine go (!ad.isNone) ?_ (hk _ fun hb=>afk (by simpa using hb));simp only[binOp];simp[Op.equal,Op.maxDepth,Lib.run_equalIn_slice_nil w 9999 t e ad n c 0 0 hu]
theorem XV(h:cj E draw site o f m k=some r)(hi:Qs o.op=true):draw=false∧Hj E o f m k r:=by
 obtain⟨dst,op,type,pos,after,guard⟩:=o;unfold cj at h;cases op<;>first|(cases hi;done)|skip
 case range t x=>
  simp only at h;split at h
  ·cases h
  ·rename_i hd;refine⟨by simpa using hd,And.intro (fun c x y h=>by cases h) fun rd w0 μ φ a w K Q _ hR hK=>Eb (fun c h=>by cases h) ?_⟩;obtain⟨f',m',hk,hl,hs⟩:=UU h;obtain⟨w',y',μ',φ',r1,r2,r3,r4⟩:=hs _ _ _ _ _ _ _ hR.toaG hR.kT (ax hR x).1;exact fY (y:=y') (w':=w') (by simp[execOp,r1]) (hK _ _ _ _ _ _ _ hk r2 r3 r4 fun id hid=>by have:=K5 hid;subst this;exact hl)
 case next x s=>
  simp only at h;split at h
  ·cases h
  ·rename_i hd;simp only[anH,ap8,aor]at hd;obtain⟨hd,rfl⟩:=hd;refine⟨hd,And.intro (fun c x y h=>by cases h) fun rd w0 μ φ a w K Q _ hR hK=>Eb (fun c h=>by cases h) ?_⟩;obtain⟨v,m',y',w',hk,hv,hl,r1,r2,r3⟩:=XG h _ _ _ _ _ _ type hR.toaG (ax hR x).1;exact fY (y:=y') (w':=w') (by simp[execOp,r1]) (hK _ _ _ _ _ _ _ hk r2 (hR.kT.oA (fun _ _ h=>h) hl) r3 fun id hid=>by rw[hv id]at hid;cases hid)
 case entry x=>
  simp only at h;split at h
  ·cases h
  ·rename_i hd;refine⟨by simpa using hd,And.intro (fun c x y h=>by cases h) fun rd w0 μ φ a w K Q _ hR hK=>Eb (fun c h=>by cases h) ?_⟩;obtain⟨v,m',y',hk,hv,hl,r1,r3,r2⟩:=UX h _ _ _ _ _ _ _ hR.toaG (ax hR x).1;exact fY (y:=y') (w':=w) (by simp[execOp,r1]) (hK _ _ _ _ _ _ _ hk r3 (hR.kT.oA (fun _ _ h=>h) hl) r2 fun id hid=>by rw[hv id]at hid;cases hid)
theorem acX(hE:jR E)(h:cj E draw site o f m k=some r):(∃v f' m' ft,k v f' m' ft=some r∧xv E draw site o f m v f' m' ft)∨(draw=false∧Hj E o f m k r):=by
 by_cases hc:∃c,o.op=.call c
 ·obtain⟨dst,op,type,pos,after,guard⟩:=o;obtain⟨⟨callee,args,argTypes⟩,hc⟩:=hc;simp only at hc;subst hc;exact XT hE h
 ·by_cases hb:∃op t x y ty s es,o.op=.binOp op t x y ty∧bF E f x=.pv (.rs s es)∧bF E f y=.gy
  ·obtain⟨op,t,x,y,ty,s,es,h1,h2,h3⟩:=hb;obtain⟨dst,op',type,pos,after,guard⟩:=o;simp only at h1;subst h1;exact .inr (acW h h2 h3)
  ·cases hi:Qs o.op with
   |true=>exact .inr (XV h hi)
   |false=>exact .inl (acV hE h (fun c Lt=>hc ⟨c,Lt⟩) (fun op t x y ty s es h1 h2 h3=>hb ⟨op,t,x,y,ty,s,es,h1,h2,h3⟩) hi)
theorem Rel.BK{nt:Nat}{P:Program}{G:Nat→Option (List PV)}{w0:bl}{μ:Ro}{φ:Nat→aK}{f:Fr}{m:Mem}{a:Act}{w:World}(h:Rel P G nt w0 μ φ f m a w){K:Ro}(hK:∀b o,K b=some o→μ b=some o)(hK0:∀b o,w0.dG b=some o→K b=some o):Rel P G nt {w0 with dG:=K} μ φ f m a w:={toaG:=h.toaG.BK hK,size:=h.size,defers:=h.defers,lu:=fun b o hb=>hK0 b o (h.lu b o hb),fr:=h.fr,live:=h.live}
theorem Rel.G6{nt:Nat}{P:Program}{G:Nat→Option (List PV)}{w0:bl}{μ:Ro}{φ:Nat→aK}{f:Fr}{m:Mem}{a:Act}{w:World}{K:Ro}(h:Rel P G nt {w0 with dG:=K} μ φ f m a w)(hK:∀b o,w0.dG b=some o→K b=some o)(ho:∀b o,w0.lu b=some o→w0.dG b=some o):Rel P G nt w0 μ φ f m a w:={toaG:=h.toaG.G6 hK,size:=h.size,defers:=h.defers,lu:=ho,fr:=h.fr,live:=h.live}
abbrev N0(μ μ':Ro):Prop:=∀b o,μ b=some o→μ' b=some o
theorem QT(h:cj E draw site o f m k=some r):∀c,o.op≠.defer c:=by intro c hc;obtain⟨dst,op,type,pos,after,guard⟩:=o;simp only at hc;subst hc;simp[cj]at h
theorem xv.BM{f':Fr}{ft:bx}(h:xv E draw site o f m v f' m' ft)(hd:∀c,o.op≠.defer c)(rd:Option Nat)(w0:bl)(μ:Ro)(φ:Nat→aK)(a:Act)(w:World)(K:Act→World→Prop)(Q:Exit→Act→World→Prop)(hR:Rel E.P E.aF E.fn.ntmps w0 μ φ f m a w)(hK:∀y w' μ' φ',N0 μ μ'→aG E.P E.aF w0 μ' φ' m' w'→b9 E.P μ' φ' m' f' (bV E.fn.ntmps w0 a)→aq E.P μ' φ' v y→(∀id,v.has id=true→(m' id).isSome=true)→K (a.put o.dst y) w'):o.wpIn (FR rd) 0 E.P a w K Q:=Eb hd (h.sound {w0 with dG:=μ} μ φ a w K Q (hR.BK (fun _ _ h=>h) hR.dG) fun y w' μ' φ' h1 h2 h3 h4=>hK y w' μ' φ' h1.dG (h1.G6 hR.dG) h2 h3 h4)
theorem Hj.BM(h:Hj E o f m k r)(rd:Option Nat)(w0:bl)(μ:Ro)(φ:Nat→aK)(a:Act)(w:World)(K:Act→World→Prop)(Q:Exit→Act→World→Prop)(hY:sq E.P E.aF E.fn.ntmps E.yl w0)(hR:Rel E.P E.aF E.fn.ntmps w0 μ φ f m a w)(hK:∀v f' m' y w' μ' φ',k v f' m' [(true,0)]=some r→N0 μ μ'→aG E.P E.aF w0 μ' φ' m' w'→b9 E.P μ' φ' m' f' (bV E.fn.ntmps w0 a)→aq E.P μ' φ' v y→(∀id,v.has id=true→(m' id).isSome=true)→K (a.put o.dst y) w'):o.wpIn (FR rd) 0 E.P a w K Q:=h.2 rd {w0 with dG:=μ} μ φ a w K Q (hY.BK hR.dG) (hR.BK (fun _ _ h=>h) hR.dG) fun v f' m' y w' μ' φ' h0 h1 h2 h3 h4=>hK v f' m' y w' μ' φ' h0 h1.dG (h1.G6 hR.dG) h2 h3 h4
end
section
variable {R:Type} {E:Env}
variable{site:Nat}{o:Oper}{k:V→Fr→Mem→bx→Option R}
theorem QU{f:Fr}{m:Mem}{sp:Sp}{r:R}(hs:Bz E site o f m=some sp)(h:xsp E site sp f m k=some r):∃v wr,k v (kf (sp.info site).1 f) (uE wr (km (sp.info site).1 m)) (sp.info site).2=some r∧(∀x∈wr,(true,x.1)∈(sp.info site).2)∧(∀x∈(sp.info site).1,(true,x.2)∈(sp.info site).2)∧(∀(f2:Fr)(m2:Mem)(R':Type)(k':V→Fr→Mem→bx→Option R'),xsp E site sp f2 m2 k'=k' v (kf (sp.info site).1 f2) (uE wr (km (sp.info site).1 m2)) (sp.info site).2)∧(∀c,o.op≠.defer c)∧xv E false site o f m v (kf (sp.info site).1 f) (uE wr (km (sp.info site).1 m)) (sp.info site).2:=by
 obtain⟨dst,op,type,pos,after,guard⟩:=o;unfold Bz at hs;cases op;case store t a x=>
  simp only at hs;split at hs
  ·rename_i id i off ha;split at hs
   ·rename_i s et es hm;split at hs
    ·rename_i cs hc;split at hs
     ·rename_i ps j id2 ht;split at hs
      ·rename_i lX;simp only[tb]at hs;subst hs;simp only[OF,te,anT]at lX;obtain⟨⟨hb,h0⟩,cy⟩:=lX;have cy:id2≠id:=fun e=>by simp_all
       unfold xsp at h;obtain⟨e,he,h⟩:=AI.1 h;refine⟨_,_,h,by simp[Sp.info],by simp[Sp.info],fun f2 m2 R' k'=>by simp only[xsp,he,anC];rfl,by simp,⟨fun h=>(nomatch h),fun _ h=>absurd (h (true,id) (by simp[Sp.info])) (by simp),fun w0 μ φ ac w K Q hR hK=>?_⟩⟩;obtain⟨w',φ',u1,u2,u3⟩:=XI hm hc ht hb h0 cy he hR.toaG hR.kT (by have:=(ax hR a).1;rw[ha]at this;exact this) (ax hR x).1;exact y7 (by simp[execOp,u1]) (hK undef w' μ φ' u2 u3 .top (by simp))
      ·cases hs
     ·cases hs
    ·cases hs
   ·cases hs
  ·cases hs
 case buildSlice t len parts=>
  simp only at hs;split at hs
  ·rename_i e v hu hp;split at hs
   ·rename_i cs hc;split at hs
    ·rename_i ps j id2 ht ahz;split at hs
     ·rename_i p NW;split at hs
      ·rename_i lX;simp only[tb]at hs;subst hs;simp only[OF,te]at lX;obtain⟨⟨⟨hlen,eO⟩,U7⟩,hz⟩:=lX;have hlen:=K5 hlen;subst hlen;refine⟨_,_,h,by simp[Sp.info],by simp[Sp.info],fun f2 m2 R' k'=>rfl,by simp,⟨fun h=>(nomatch h),fun h _=>by(simp[fI]at h),fun w0 μ φ ac w K Q hR hK=>?_⟩⟩;obtain⟨x,hx,hxv⟩:∃x,parts= #[(0,x)]∧bF E f x=v:=by
        obtain⟨l⟩:=parts;match l,hp with
        |[(a,x)],hp=>simp_all
       subst hx;obtain⟨y,w',φ',u1,u2,u3,u4⟩:=UZ hu hc ht ahz NW eO U7 hz hR.toaG hR.kT (by have:=(ax hR x).1;rw[hxv]at this;exact this);exact fY (y:=y) (w':=w') (by simp_all[execOp,Sem.run_bind,Result.andThen_ok,Sem.run_pure]) (hK y w' μ φ' u2 u3 u4 fun j hj=>by have hj:=K5 hj;subst hj;simp[uE])
      ·cases hs
     ·cases hs
    ·cases hs
   ·cases hs
  ·cases hs
 case call c=>
  obtain⟨callee,args,argTypes⟩:=c;simp only at hs;split at hs
  ·rename_i id x t t' ha hty;split at hs
   ·rename_i e s et es hu hm;split at hs
    ·rename_i lX;simp only[OF,te]at lX;obtain⟨⟨⟨⟨⟨h1,h2⟩,h3⟩,h4⟩,h5⟩,h6⟩:=lX;subst h3;have h1:et=e:=by omega
     subst h1;have tu:∃y z,args= #[y,z]∧bF E f y=.os id∧bF E f z=x:=by
      obtain⟨l⟩:=args;rcases l with _|⟨y,_|⟨z,_|⟨u,l⟩⟩⟩
      ·simp at ha
      ·simp at ha
      ·grind
      ·simp at ha
     obtain⟨y,z,rfl,hy,hz⟩:=tu;have acY:argTypes= #[t',t']:=ao7 (by omega);subst acY;have main:∀(new:List PV)(src:Option Nat)(rd:bx),sp=.app id s et es new src rd→((∃id2,src=some id2∧id2≠id∧x=.os id2∧m id2=some (.nest s et new))∨(src=none∧fM m s x=some (new,rd)))→∃v wr,k v (kf (sp.info site).1 f) (uE wr (km (sp.info site).1 m)) (sp.info site).2=some r∧(∀x∈wr,(true,x.1)∈(sp.info site).2)∧(∀x∈(sp.info site).1,(true,x.2)∈(sp.info site).2)∧(∀(f2:Fr)(m2:Mem)(R':Type)(k':V→Fr→Mem→bx→Option R'),xsp E site sp f2 m2 k'=k' v (kf (sp.info site).1 f2) (uE wr (km (sp.info site).1 m2)) (sp.info site).2)∧(∀c,(⟨dst,.call ⟨.builtin .append,#[y,z],#[t',t']⟩,type,pos,after,guard⟩:Oper).op≠.defer c)∧xv E false site ⟨dst,.call ⟨.builtin .append,#[y,z],#[t',t']⟩,type,pos,after,guard⟩ f m v (kf (sp.info site).1 f) (uE wr (km (sp.info site).1 m)) (sp.info site).2:=by
      intro new src rd rD AO;subst rD;simp only[xsp]at h;split at h
      ·rename_i cr;have hw:(true,id)∈(Sp.info site (.app id s et es new src rd)).2:=by cases src<;>simp[Sp.info]
       have hkm:uE [(id,.nest s et (es++new))] (km (Sp.info site (.app id s et es new src rd)).1 m)=aB (br (bH id (SP src m)) id) id (.nest s et (es++new)):=by cases src<;>rfl
       have hkf:kf (Sp.info site (.app id s et es new src rd)).1 f=eU id (kfS src f):=by cases src<;>rfl
       refine⟨_,_,h,fun q hq=>(by simp_all),fun q hq=>?_,fun f2 m2 R' k'=>by simp only[xsp];rw[BY cr],by simp,⟨fun h=>(nomatch h),fun _ h=>absurd (h (true,id) hw) (by simp),fun w0 μ φ ac w K Q hR hK=>?_⟩⟩
       ·cases src<;>simp only[Sp.info,anA,aqq,or_false]at hq⊢
        ·subst hq;simp
        grind
       ·obtain⟨w',y',φ',u1,u2,u3,u4⟩:=U3 (ty:=type) hu hm h2 h4 h5 h6 cr AO hR.toaG hR.kT (by have:=(ax hR y).1;rw[hy]at this;exact this) (by have:=(ax hR z).1;rw[hz]at this;exact this);exact fY (y:=y') (w':=w') (by simp[execOp,resolve,invoke,builtin,u1]) (hK y' w' μ φ' (by rw[hkm];omega) (by rw[hkm,hkf];omega) u4 fun j hj=>by have hj:=K5 hj;subst hj;simp[uE])
      ·cases h
     split at hs
     ·rename_i uv;split at hs
      ·rename_i s' I4 new U4;split at hs
       ·rename_i Na;simp only[OF,te]at Na;obtain⟨⟨c1,c2⟩,c3⟩:=Na;have c1:=K5 c1;subst c1;subst c2;simp only[tb]at hs;exact main new (some uv) [] hs.symm (.inl ⟨uv,rfl,fun e=>by simp_all,rfl,U4⟩)
       ·cases hs
      grind
     grind
    ·cases hs
   ·cases hs
  ·cases hs
 case mapUpdate t x key v=>
  simp only at hs;split at hs
  ·rename_i kt et id id2 hu hx hv;split at hs
   ·rename_i yH e es s e' rs kp h1 h2 hk;split at hs
    ·rename_i lX;simp only[tb]at hs;subst hs;simp only[OF,te]at lX;obtain⟨⟨hkt,hee⟩,_⟩:=lX;subst hkt;subst hee;refine⟨_,_,h,by simp[Sp.info],by simp[Sp.info],fun f2 m2 R' k'=>rfl,by simp,⟨fun h=>(nomatch h),fun h _=>by(simp[fI]at h),fun w0 μ φ ac w K Q hR hK=>?_⟩⟩;obtain⟨w',φ',u1,u2,u3⟩:=U2 hu h1 h2 hk hR.toaG hR.kT (by have:=(ax hR x).1;rw[hx]at this;exact this) (ax hR key).1 (by have:=(ax hR v).1;rw[hv]at this;exact this);exact y7 (by simp[execOp,u1]) (hK undef w' μ φ' u2 u3 .top (by simp))
    ·cases hs
   ·cases hs
  ·cases hs
 all_goals (cases hs)
theorem LC(hE:jR E){draw:Bool}{f:Fr}{m:Mem}{r:R}(h:M7 E draw site o f m k=some r):(∃v f' m' ft,k v f' m' ft=some r∧xv E draw site o f m v f' m' ft)∨(draw=false∧Hj E o f m k r):=by
 unfold M7 at h;split at h
 ·rename_i sp rD;cases draw with
  |true=>cases rD
  |false=>simp only[cond]at rD;grind [QU]
 ·exact acX hE h
theorem Ee{draw:Bool}{f:Fr}{m:Mem}{r:R}(h:M7 E draw site o f m k=some r):∀c,o.op≠.defer c:=by
 unfold M7 at h;split at h
 ·rename_i sp rD;cases draw with
  |true=>cases rD
  |false=>simp only[cond]at rD;grind [QU]
 ·exact QT h
end
end Go.Ab
