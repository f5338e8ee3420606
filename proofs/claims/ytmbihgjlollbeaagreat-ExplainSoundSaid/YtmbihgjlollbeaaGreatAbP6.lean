import Derived.Test.YtmbihgjlollbeaaGreatAbP5
import Derived.Lib.SliceRun
import Derived.Laws.IdiomStrings
set_option linter.all false
namespace Go.Ab
open Go.RowKit (Below)
section
variable {R:Type} {E:Env}
variable{t:TypeId}
theorem HY{P:Program}{w:World}{ms:Array (String×TypeId)}(hu:P.underlying t=some (.interface ms)){b:Bool}{x:Value}{μ:Ro}(hx:ah P μ (.Zx b) x):(Op.equalIn 10000 t x .nilIface).run P w=.ok (!b) w:=by show(Op.equalIn (9999+1) t x .nilIface).run P w=.ok (!b) w;cases hx<;>(unfold Op.equalIn;simp only[Sem.run_bind,run_underlying hu,Result.andThen_ok];rfl)
theorem Dj{P:Program}{w:World}{op:BinOp}{ox:Operand}{c:Value}{b:Bool}{x:Value}{μ:Ro}(hx:ah P μ (.Zx b) x):(eqGuard op t ox (.const c) x .nilIface).run P w=.ok () w:=by
 cases hx
 ·rw[eqGuard_nil_constR];rfl
 ·rename_i d z;have:eqGuard op t ox (.const c) (.iface d z) .nilIface=pure ():=by cases op<;>rfl
  rw[this];rfl
theorem Vu{op:BinOp}{oy:Operand}{a b:V}{k:PV→Option R}{r:R}(h:KL E op t oy a b k=some r):∃q,(∀(R':Type)(k':PV→Option R'),KL E op t oy a b k'=k' q)∧k q=some r∧∀(μ:Ro)(φ:Nat→aA)(w:World)(ox:Operand)(x y:Value),(Ew oy=true→y=.nilIface)→af E.P μ φ a x→af E.P μ φ b y→∃z,(tR op t ox oy x y).run E.P w=.ok z w∧ah E.P μ q z:=by
 unfold KL at h⊢;cases hn:Ew oy with
 |false=>rw[hn]at h;obtain⟨q,q1,q2,q3⟩:=ZP h;exact⟨q,fun R' k'=>q1 R' k',q2,fun μ φ w ox x y _ hx hy=>q3 μ φ w ox oy x y hx hy⟩
 |true=>
  rw[hn]at h;simp only[cond]at h⊢;have hoy:oy=.const .nilIface:=by unfold Ew at hn;grind
  subst hoy;unfold UG at h⊢;split at h
  ·rename_i c;split at h
   ·rename_i ms hu;refine⟨_,fun R' k'=>by rfl,h,fun μ φ w ox x y hy hx _=>?_⟩;have:=hy trivial;subst this;cases hx with
    |pv hx=>exact⟨_,bN (Dj hx) (je (by cases hx<;>rfl) (HY hu hx)),.bool⟩
   ·rename_i ms hu;refine⟨_,fun R' k'=>by rfl,h,fun μ φ w ox x y hy hx _=>?_⟩;have:=hy trivial;subst this;cases hx with
    |pv hx=>refine⟨_,bN (Dj hx) (jf (by cases hx<;>rfl) (HY hu hx)),?_⟩;rw[Bool.not_not];exact .bool
   ·cases h
  ·cases h
theorem HZ{P:Program}{μ:Ro}:∀{es:List PV}{b:Bytes}{xs:List Value},Cc es=some b→Cells P μ 1 es xs→b.length=es.length∧xs=b.map fun c=>.int .u8 (c.toNat:Int)
 |[],b,xs,h,hC=>by simp only[Cc,cO]at h;subst h;have:=hC.len;simp_all
 |e::es,b,xs,h,hC=>by
  unfold Cc at h;split at h
  ·rename_i he;cases he
  ·rename_i n r he;simp only[alc]at he;obtain⟨rfl,rfl⟩:=he;obtain⟨b',jc,rfl⟩:=acG.1 h;cases xs with
   |nil=>have:=hC.len;simp at this
   |cons x xs=>
    have hx:x=.int .u8 n∧(Lit.int .u8 n).wf=true:=by
     have:=hC.rep 0 _ 0 _ x rfl rfl rfl;cases this with
     |int hw=>exact⟨rfl,hw⟩
    obtain⟨rfl,hw⟩:=hx;have hC':Cells P μ 1 es xs:=⟨by have:=hC.len;simp at this⊢;omega,fun i e hi=>hC.each (i+1) e (by simpa using hi),fun i e j p y hi hj hy=>hC.rep (i+1) e j p y (by simpa using hi) hj (by grind),fun i y hy=>hC.one (i+1) y (by simpa using hy)⟩;obtain⟨h1,h2⟩:=HZ jc hC';refine⟨by simp[h1],?_⟩;rw[akn,←h2];rw[mc]at hw;grind [IntKind.min,IntKind.max,IntKind.signed,IntKind.bits,UInt8.ofNat,UInt8.toNat_ofNat']
  ·cases h
theorem SM{s d:TypeId}{a:V}{m:Mem}{k:PV→bq→Option R}{r:R}(h:Cd E s d a m k=some r):∃q ft,(∀m2:Mem,(∀x∈ft,m2 x.2=m x.2)→∀(R':Type)(k':PV→bq→Option R'),Cd E s d a m2 k'=k' q ft)∧k q ft=some r∧(∀x∈ft,x.1=false)∧∀(G:Nat→Option (List PV))(w0:bA)(μ:Ro)(φ:Nat→aA)(w:World)(x:Value),av E.P G w0 μ φ m w→af E.P μ φ a x→∃z,(convert s d x).run E.P w=.ok z w∧ah E.P μ q z:=by
 unfold Cd at h;split at h
 ·rename_i e hs hd;split at h
  ·rename_i es ft hu HQ;obtain⟨b,hb,hk⟩:=cT.1 h;obtain⟨e1,e2,e3⟩:=oQ HQ;refine⟨.str b,ft,fun m2 cL R' k'=>by simp_all[Cd,akj],hk,e2,fun G w0 μ φ w x hM hx=>?_⟩;have Ao:=e3 _ _ _ _ _ _ _ hM hx;cases Ao with
   |none he=>subst he;simp only[Cc,cO]at hb;subst hb;exact⟨_,by simp[convert,run_underlying hs,run_underlying hd,run_underlying hu,Conv.bytesToString];rfl,.str (by decide)⟩
   | @some a c xs hC hc hl hm=>obtain⟨h1,h2⟩:=HZ hb hC;subst h2;rw[←h1];refine⟨_,run_convert_bytes_back w s d e a c b hs hu hd fun j hj=>hc j _ (by grind),.str (by omega)⟩
  ·cases h
 ·rename_i Ee;obtain⟨q,q1,q2,q3⟩:=U1 h;refine⟨q,[],fun m2 _ R' k'=>?_,q2,by simp,fun G w0 μ φ w x _ hx=>q3 μ φ w x hx⟩;simp_all[Cd,absurd]
end
structure vI(E:Env)(draw:Bool)(site:Nat)(o:Oper)(f:Fr)(m:Mem)(v:V)(f':Fr)(m':Mem)(ft:bq):Prop where
 drawn:draw=true→f'=f∧∃wr:List (Nat×bH),m'=uD wr m∧(∀x∈wr,(true,x.1)∈ft)∧∀(f2:Fr)(m2:Mem),(∀x∈o.op.operands,bC E f2 x=bC E f x)→(∀x∈ft,m2 x.2=m x.2)→∀(R':Type)(k':V→Fr→Mem→bq→Option R'),cv E true site o f2 m2 k'=k' v f2 (uD wr m2) ft
 same:fk o=true→(∀x∈ft,x.1=false)→f'=f∧m'=m
 sound:∀(w0:bA)(μ:Ro)(φ:Nat→aA)(a:Act)(w:World)(K:Act→World→Prop)(Q:Exit→Act→World→Prop),Rel E.P E.aG E.fn.ntmps w0 μ φ f m a w→(∀y w' μ' φ',av E.P E.aG w0 μ' φ' m' w'→bR E.P μ' φ' m' f' (bM E.fn.ntmps w0 a)→af E.P μ' φ' v y→(∀id,v.has id=true→(m' id).isSome=true)→K (a.put o.dst y) w')→o.wp E.P a w K Q
def FR(rd:Option Nat):Fence:={Fence.wide with round:=rd}
variable{rd:Option Nat}{P:Program}
theorem FR.Z3{m m':Machine}:StepsIn (Machine.fenced P (FR rd)) P m m'↔Steps P m m':=stepsIn_wide (P:=P)
variable{args:Array Value}{w:World}{R:Ending→World→Prop}
theorem FR.Qd{n:Nat}{f:FuncId}(h:Calls P f args w R):CallsIn (FR rd) n P f args w R:=(callsIn_wide (n:=n)).2 h
theorem FR.acX{n:Nat}{row:String}{R:Value→World→Prop}(h:Rows P row args w R):RowsIn (FR rd) n P row args w R:=fun c cs _=>let⟨v,w',r,s⟩:=h c cs;⟨v,w',r,FR.Z3.2 s⟩
theorem FR.Z4{n n':Nat}{l:Nat}{f:FuncId}{tmps:Array Value}{assign body:Code}(h:RoundIn Fence.wide n P l f tmps assign body w R):RoundIn (FR rd) n' P l f tmps assign body w R:=⟨trivial,fun c cs _=>h.2 c cs (room_wide _)⟩
theorem Cr{o:Oper}{a:Act}{K:Act→World→Prop}{Q:Exit→Act→World→Prop}(hd:∀c,o.op≠.defer c)(h:o.wp P a w K Q):o.wpIn (FR rd) 0 P a w K Q:=by
 refine⟨fun _ _=>trivial,?_⟩;rw[Oper.semAt_eq _ _ _ hd];unfold Oper.wp at h;cases hr:(execOp a.eval o).run P w with
 |ok nx w'=>
  rw[hr]at h;cases nx with
  |value v=>exact h
  |skip=>exact h
  |defer d=>exact h
  |enter f args=>exact⟨fun h=>(by cases h),FR.Qd h⟩
  |row row args=>exact⟨fun h=>(by cases h),FR.acX h⟩
  |_=>exact h.elim
 |halt h' w'=>
  rw[hr]at h;cases h' with
  |panic v=>exact h
  |_=>exact h.elim
def Fj{R:Type}(E:Env)(o:Oper)(f:Fr)(m:Mem)(k:V→Fr→Mem→bq→Option R)(r:R):Prop:=
 (∀c x y,o.op≠.pick c x y)∧
 ∀(rd:Option Nat)(w0:bA)(μ:Ro)(φ:Nat→aA)(a:Act)(w:World)(K:Act→World→Prop)(Q:Exit→Act→World→Prop),uL E.P E.aG E.fn.ntmps E.yl w0→Rel E.P E.aG E.fn.ntmps w0 μ φ f m a w→(∀v f' m' y w' μ' φ',k v f' m' [(true,0)]=some r→av E.P E.aG w0 μ' φ' m' w'→bR E.P μ' φ' m' f' (bM E.fn.ntmps w0 a)→af E.P μ' φ' v y→(∀id,v.has id=true→(m' id).isSome=true)→K (a.put o.dst y) w')→o.wpIn (FR rd) 0 E.P a w K Q
section
variable {R:Type} {E:Env}
variable{w0:bA}{μ:Ro}{φ:Nat→aA}{f:Fr}{m:Mem}{a:Act}{w:World}
theorem Rel.kX(h:Rel E.P E.aG E.fn.ntmps w0 μ φ f m a w):bR E.P μ φ m f (bM E.fn.ntmps w0 a):=⟨h.fr,h.live⟩
variable{P:Program}{o:Oper}{K:Act→World→Prop}{Q:Exit→Act→World→Prop}
theorem fU{w':World}{y:Value}(hr:(execOp a.eval o).run P w=.ok (.value y) w')(h:K (a.put o.dst y) w'):o.wp P a w K Q:=by unfold Oper.wp;rw[hr];exact h
theorem xG{w':World}(hr:(execOp a.eval o).run P w=.ok .skip w')(h:K (a.put o.dst undef) w'):o.wp P a w K Q:=by unfold Oper.wp;rw[hr];exact h
variable{draw:Bool}{site:Nat}{v:V}
theorem vI.read{ft:bq}(nat:∀(f2:Fr)(m2:Mem),(∀x∈o.op.operands,bC E f2 x=bC E f x)→(∀x∈ft,m2 x.2=m x.2)→∀(R':Type)(k':V→Fr→Mem→bq→Option R'),cv E true site o f2 m2 k'=k' v f2 m2 ft)(hs:∀(w0:bA)(μ:Ro)(φ:Nat→aA)(a:Act)(w:World),Rel E.P E.aG E.fn.ntmps w0 μ φ f m a w→∃y,(execOp a.eval o).run E.P w=.ok (.value y) w∧af E.P μ φ v y∧∀id,v.has id=true→(m id).isSome=true):vI E draw site o f m v f m ft:=by refine⟨fun _=>⟨rfl,[],rfl,by simp,nat⟩,fun _ _=>⟨rfl,rfl⟩,fun w0 μ φ a w K Q hR hK=>?_⟩;obtain⟨y,hr,hy,hl⟩:=hs w0 μ φ a w hR;exact fU hr (hK y w μ φ hR.toav hR.kX hy hl)
variable{m':Mem}
theorem vI.make{f':Fr}{b:bH}(hd:draw=true→m site=none∧f'=f∧m'=ao m site b)(nat:draw=true→∀(f2:Fr)(m2:Mem),(∀x∈o.op.operands,bC E f2 x=bC E f x)→m2 site=none→∀(R':Type)(k':V→Fr→Mem→bq→Option R'),cv E true site o f2 m2 k'=k' v f2 (ao m2 site b) [(true,site)])(hs:∀(w0:bA)(μ:Ro)(φ:Nat→aA)(a:Act)(w:World),Rel E.P E.aG E.fn.ntmps w0 μ φ f m a w→∃y w' μ' φ',(execOp a.eval o).run E.P w=.ok (.value y) w'∧av E.P E.aG w0 μ' φ' m' w'∧bR E.P μ' φ' m' f' (bM E.fn.ntmps w0 a)∧af E.P μ' φ' v y∧∀id,v.has id=true→(m' id).isSome=true):vI E draw site o f m v f' m' [(true,site)]:=by
 refine⟨fun h=>?_,fun _ h=>by simp_all,fun w0 μ φ a w K Q hR hK=>?_⟩
 ·obtain⟨h1,h2,h3⟩:=hd h;exact⟨h2,[(site,b)],h3,by simp,fun f2 m2 hf hm R' k'=>nat h f2 m2 hf (by simp_all) R' k'⟩
 grind [fU]
variable{args:Array Operand}
theorem lZ(h:Rel E.P E.aG E.fn.ntmps w0 μ φ f m a w):(args.toList.map (bC E f)).length=(args.map a.eval).size∧∀(i:Nat)v x,(args.toList.map (bC E f))[i]?=some v→(args.map a.eval)[i]?=some x→af E.P μ φ v x:=by refine⟨by simp,fun i v x hv hx=>?_⟩;simp only[IT,acG]at hv;obtain⟨o,ho,rfl⟩:=hv;grind [Option.some.injEq,al]
theorem rG(h:Rel E.P E.aG E.fn.ntmps w0 μ φ f m a w){args:List Operand}{id:Nat}(hid:b8 id (args.map (bC E f))=true):(m id).isSome=true:=by obtain⟨v,hv,hh⟩:=cz.1 hid;obtain⟨o,_,rfl⟩:=akt.1 hv;exact(al h o).2 id hh
theorem pD{f2:Fr}{l:List Operand}(h:∀x∈l,bC E f2 x=bC E f x):l.map (bC E f2)=l.map (bC E f):=akF h
theorem tC{f2:Fr}{l:List (Nat×Operand)}(h:∀x∈l,bC E f2 x.2=bC E f x.2):(l.map fun(x:Nat×Operand)=>(x.1,bC E f2 x.2))=l.map fun(x:Nat×Operand)=>(x.1,bC E f x.2):=akF fun x hx=>by rw[h x hx]
variable{g:FuncId}
theorem za{fn:Func}{c:Code}(hf:P.funcs[g]?=some fn)(abP:(fn.name== "runtime.NumGoroutine")=false)(hb:fn.body=some c){args:Array Value}:(callFunc g args).run P w=.ok (.enter g args) w:=by simp_all[callFunc]
theorem so{b:Bool}{x:Value}(h:af P μ φ (.pv (.bool b)) x):x=.bool b:=by cases h with|pv h=>cases h;rfl
theorem Vv{p:PV}(h:Ev cP v=some (p,m'))(m:Mem):Ev m v=some (p,m):=by unfold Ev at h⊢;grind [Option.some.injEq,Prod.mk.injEq,cP]
theorem Cs:∀{cs:List V}{ps:List PV}{m':Mem},mY cP cs=some (ps,m')→∀m:Mem,mY m cs=some (ps,m)
 |[],ps,m',h,m=>by simp only[mY,cO,Ua]at h;rw[←h.1];rfl
 |c::r,ps,m',h,m=>by
  simp only[mY]at h;split at h
  ·rename_i p m1 h1;have e1:=si h1;subst e1;split at h
   ·rename_i ps1 m2 h2;simp only[cO,Ua]at h;simp only[mY,Vv h1 m,Cs h2 m,h.1]
   ·cases h
  ·cases h
theorem Dk:∀{cs:List V}{ps:List PV}{m':Mem},mY cP cs=some (ps,m')→m'=cP
 |[],ps,m',h=>by simp_all[mY,cO,Ua]
 |c::r,ps,m',h=>by
  simp only[mY]at h;split at h
  ·rename_i p m1 h1;have e1:=si h1;subst e1;split at h
   ·rename_i ps1 m2 h2;simp only[cO,Ua]at h;rw[←h.2];exact Dk h2
   ·cases h
  ·cases h
theorem Le{n:Nat}{agg:Bool}{p:PV}(h:kR cP n agg v=some (p,m')):m'=cP∧∀m:Mem,kR m n agg v=some (p,m):=by
 unfold kR at h;split at h
 ·rename_i cs hc;split at h
  ·rename_i ps m1 h1;have e1:=Dk h1;subst e1;cases agg with
   |true=>simp only[Ko,cO,Ua]at h;refine⟨h.2.symm,fun m=>?_⟩;unfold kR;simp only[hc,Cs h1 m,Ko,h.1]
   |false=>
    simp only[cQ,abp]at h;split at h
    ·simp only[cO,Ua]at h;refine⟨h.2.symm,fun m=>?_⟩;unfold kR;simp only[hc,Cs h1 m,cQ,abp,h.1]
    ·cases h
  ·cases h
 ·cases h
theorem sq{n:Nat}{agg:Bool}:∀{parts:List (Nat×V)}{i:Nat}{ps:List PV}{m':Mem},fb cP n agg i parts=some (ps,m')→m'=cP∧∀m:Mem,fb m n agg i parts=some (ps,m)
 |[],i,ps,m',h=>by simp_all[fb,cO,Ua]
 |(j,v)::r,i,ps,m',h=>by
  simp only[fb]at h;split at h
  ·rename_i Uu;split at h
   ·rename_i p m1 h1;obtain⟨e1,e2⟩:=Le h1;subst e1;split at h
    ·rename_i ps1 m2 h2;obtain⟨e3,e4⟩:=sq h2;simp_all[cO,Ua,fb,AI]
    ·cases h
   ·cases h
  ·cases h
def Be(g:FuncId)(xs ys:Array Value):Array Value:=bif Nat.blt g Eu then ys++xs else xs++ys
theorem Qe{caps args:List V}{xs ys:Array Value}(e1:args.length=ys.size)(h1:∀(i:Nat)v x,args[i]?=some v→ys[i]?=some x→af P μ φ v x)(e2:caps.length=xs.size)(h2:∀(i:Nat)v x,caps[i]?=some v→xs[i]?=some x→af P μ φ v x):(Af g caps args).length=(Be g xs ys).size∧∀(i:Nat)v x,(Af g caps args)[i]?=some v→(Be g xs ys)[i]?=some x→af P μ φ v x:=by unfold Af Be;grind
theorem Vw{caps args:List V}(h:v∈Af g caps args):v∈args∨v∈caps:=by unfold Af at h;grind
theorem Vx(g:FuncId)(xs:Array Value):A7 (g+Eu) xs=.func (.func g) xs #[]:=by simp[A7,IS,Nat.le_add_left,alQ]
theorem vJ{site:Nat}:∀{ts:List TypeId}{j:Nat}{F:Fr}{m:Mem}{k:Fr→Mem→Option R}{r:R},yO E site ts j F m k=some r→∃F' m',k F' m'=some r∧∀(G:Nat→Option (List PV))(w0:bA)(μ:Ro)(φ:Nat→aA)(w:World)(ρ:Nat→Value),av E.P G w0 μ φ m w→bR E.P μ φ m F ρ→∃φ',av E.P G w0 μ φ' m' w∧bR E.P μ φ' m' F' ρ
 |[],j,F,m,k,r,h=>⟨F,m,h,fun G w0 μ φ w ρ hM hF=>⟨φ,hM,hF⟩⟩
 |t::ts,j,F,m,k,r,h=>by
  simp only[yO]at h;split at h
  ·rename_i hj;split at h
   ·rename_i e hu;split at h
    ·rename_i fl;obtain⟨f1,m1,hn,hk,xm,zN,wF⟩:=ef h;obtain⟨F',m',c1,c2⟩:=vJ hk;refine⟨F',m',c1,fun G w0 μ φ w ρ hM hF=>?_⟩;obtain⟨φ',a1,a2,a3⟩:=wF E.P G w0 μ φ w w ρ (DQ none 0 0 (aN E.P e)) hM hF ⟨lM.refl _ _,hM.ro,fun _ _ _ _ _=>rfl,by simp,fun φ' hp _=>by refine⟨by rw[hp];rfl,by rw[hp],rfl,fl,by simp,by rw[hp];simp[maxLen],?_⟩;simp_all,by simp[bH.names],fun st h=>by cases h⟩;have hv:ρ j=.slice none 0 0:=by have:=hF.fr j;rw[hj]at this;generalize ρ j=y at this;cases this;rfl
     refine c2 G w0 μ φ' w ρ a2 ⟨fun s=>?_,fun s id hid=>?_⟩
     ·by_cases e:s=j
      ·subst e;rw[show gu f1 s (.os (uH site s)) s=.os (uH site s) by simp_all,hv];exact .tp (by rw[a1])
      ·rw[se e];exact a3.fr s
     ·by_cases e:s=j
      ·subst e;rw[show gu f1 s (.os (uH site s)) s=.os (uH site s) by simp_all]at hid;have hid:=IN hid;subst hid;simp[xm]
      ·rw[se e]at hid;exact a3.live s id hid
    ·cases h
   ·cases h
  ·exact vJ h
variable{k:V→Fr→Mem→bq→Option R}{r:R}
theorem Z5(hE:ku E)(h:cv E draw site o f m k=some r)(hc:∀c,o.op≠.call c)(hb:∀op t x y ty s es,o.op=.binOp op t x y ty→bC E f x=.pv (.rs s es)→bC E f y≠.iy)(hit:Ns o.op=false):∃v f' m' ft,k v f' m' ft=some r∧vI E draw site o f m v f' m' ft:=by
 obtain⟨dst,op,type,pos,after,guard⟩:=o;unfold cv at h;cases op<;>simp only at h;case move x=>refine⟨_,_,_,_,h,.read (fun f2 m2 hf _ R' k'=>by simp only[cv];rw[hf x (by simp[Op.operands])]) fun w0 μ φ a w hR=>⟨_,rfl,(al hR x).1,(al hR x).2⟩⟩
 case pick c x y=>
  split at h
  ·rename_i t hc;cases t with
   |true=>simp only[Ko]at h;refine⟨_,_,_,_,h,.read (fun f2 m2 hf _ R' k'=>by simp only[cv];rw[hf c (by simp[Op.operands]),hf x (by simp[Op.operands]),hc];simp) fun w0 μ φ a w hR=>?_⟩;have h1:=(al hR c).1;rw[hc]at h1;exact⟨a.eval x,by simp[execOp,Go.asBool,so h1],(al hR x).1,(al hR x).2⟩
   |false=>simp only[cQ,abp]at h;refine⟨_,_,_,_,h,.read (fun f2 m2 hf _ R' k'=>by simp only[cv];rw[hf c (by simp[Op.operands]),hf y (by simp[Op.operands]),hc];simp) fun w0 μ φ a w hR=>?_⟩;have h1:=(al hR c).1;rw[hc]at h1;exact⟨a.eval y,by simp[execOp,Go.asBool,so h1],(al hR y).1,(al hR y).2⟩
  ·cases h
 case assign x=>
  have mk:∀{v},bC E f x=v→(v=.iy→∀e,E.P.underlying type≠some (.slice e))→k v f m []=some r→∃v f' m' ft,k v f' m' ft=some r∧vI E draw site {dst,op:=.assign x,type,pos,after,guard} f m v f' m' ft:=by
   intro v hv cK hk;refine⟨v,f,m,[],hk,.read (fun f2 m2 hf _ R' k'=>?_) fun w0 μ φ a w hR=>⟨_,rfl,hv▸(al hR x).1,hv▸(al hR x).2⟩⟩;simp only[cv];rw[hf x (by simp[Op.operands]),hv];cases v<;>try rfl
   simp only;split
   ·rename_i e hu;exact absurd hu (cK rfl e)
   ·rfl
  split at h
  ·rename_i hx;split at h
   ·rename_i e hu;split at h
    ·rename_i fl;obtain⟨f',m',hn,hk,xm,zN,wF⟩:=ef h;refine⟨_,_,_,_,hk,.make zN (fun _ f2 m2 hf hs R' k'=>?_) fun w0 μ φ a w hR=>?_⟩
     ·simp only[cv];rw[hf x (by simp[Op.operands]),hx];simp only[hu,fl,Ko,fresh,hs]
     ·have h1:=(al hR x).1;rw[hx]at h1;obtain⟨φ',a1,a2,a3⟩:=wF E.P E.aG w0 μ φ w w _ (DQ none 0 0 (aN E.P e)) hR.toav hR.kX ⟨lM.refl _ _,hR.ro,fun _ _ _ _ _=>rfl,by simp,fun φ' hp _=>by refine⟨by rw[hp];rfl,by rw[hp],rfl,fl,by simp,by rw[hp];simp[maxLen],?_⟩;rw[hp];exact⟨rfl,rfl⟩,by simp[bH.names],fun st h=>by cases h⟩;refine⟨.slice none 0 0,w,μ,φ',?_,a2,a3,.tp (by rw[a1]),fun id hid=>?_⟩
      ·simp only[execOp,Sem.run_pure];generalize a.eval x=y at h1;cases h1;rfl
      ·have hid:=IN hid;subst hid;simp[xm]
    ·cases h
   ·rename_i hu;exact mk hx (fun _ e he=>hu e he) h
  ·rename_i hx;exact mk rfl (fun he=>absurd he hx) h
 case alloc t=>
  split at h
  ·rename_i cs hz;obtain⟨i,zv,z1,z2,z3,z4,z5,z6,z7,z8⟩:=eu hz;cases K4:E.B9 site with
   |true=>
    rw[K4]at h;simp only[cond_true]at h;split at h
    ·rename_i n e ps hu qe;split at h
     ·rename_i hcc;obtain⟨ha,hl,fl,ah9⟩:=hcc;obtain⟨f',m',hn,hk,xm,zN,wF⟩:=ef h;obtain⟨q1,q2⟩:=gT qe;have xl:(fu (aN E.P e) n (.agg ps)).length=n:=by simp[fu]
      refine⟨_,_,_,_,hk,.make zN (fun _ f2 m2 hf hs R' k'=>by simp only[cv,hz,K4,hu,qe,cond_true];rw[AI ⟨ha,hl,fl,ah9⟩];simp only[fresh,hs]) fun w0 μ φ a w hR=>?_⟩;have oF:ah E.P μ (.agg ps) (.agg zv.cells):=.agg (by omega) (fun i p x hp hx=>by obtain⟨v,hv,hpo⟩:=q2 i p hp;have:=z7 μ φ i v x hv hx;cases v<;>simp[pvO]at hpo;subst hpo;cases this with|pv h=>exact h) z8;have hC:Cells E.P μ (aN E.P e) (fu (aN E.P e) n (.agg ps)) (zv.cells.toList.take ((fu (aN E.P e) n (.agg ps)).length*aN E.P e)):=by
       refine⟨by rw[xl];simp;omega,fun i e' SJ=>?_,fun i e' j p y hi hj hy=>?_,fun i y hy=>z8 i y (by simpa using(iD hy).2)⟩
       ·obtain⟨_,rfl⟩:=An SJ;exact tU
       ·obtain⟨x',x1,x2,_⟩:=HP (k:=i*aN E.P e+j) oF (by omega) hi hj rfl;have:=(iD hy).2;rw[akL,x1]at this;cases this;exact x2
      obtain⟨φ',a1,a2,a3⟩:=wF E.P E.aG w0 μ φ w _ _ (DQ (some w.heap.size) n (fu (aN E.P e) n (.agg ps)).length (aN E.P e)) hR.toav hR.kX (lH.alloc (o:=.cells zv.cells t) hR.toav rfl (fun φ' hp _=>aH.pO (g:=w.heap.size) (by rw[hp]) rfl fl (by rw[hp];simp only[maxLen,DQ];omega) (fM w _) (by rw[hp];simp only[DQ];omega) (by rw[hp,xl];exact akk _) hC) (by simp[bH.names]));refine⟨.pointer (some ⟨w.heap.size,0,none⟩),w.alloc (.cells zv.cells t),μ,φ',by simp[execOp,Cn z1 z2],a2,a3,?_,fun id hid=>?_⟩
      ·have:=af.oe (P:=E.P) (μ:=μ) (φ:=φ') (id:=site) (i:=0) (off:=0) (g:=w.heap.size) (by rw[a1]);simpa using this
      ·have hid:=IN hid;subst hid;simp[xm]
     ·cases h
    ·cases h
   |false=>
   rw[K4]at h;simp only[cond_false]at h;split at h
   ·rename_i Vy;have hdf:draw=false:=by simp only[No,akK]at Vy;exact Vy.1
    obtain⟨F,m1,g1,g2⟩:=vJ h;obtain⟨f',m',hn,hk,xm,zN,wF⟩:=ef g1;refine⟨_,_,_,_,hk,⟨fun hd=>(by rw[hdf]at hd;cases hd),fun _ h=>(by have:=h (true,site) (by simp);cases this),fun w0 μ φ a w K Q hR hK=>?_⟩⟩;have x1:cs.length=zv.cells.size:=by omega
    have x2:=z7 μ φ;have x3:=z8;have hF0:bR E.P μ φ m (wy cs.length cs f) (fun t=>if t<cs.length then zv.cells.getD t undef else bM E.fn.ntmps w0 a (t-cs.length)):=by
     refine⟨fun t=>?_,fun t id hid=>?_⟩
     ·unfold wy;by_cases ht:t<cs.length
      ·rw[show Nat.blt t cs.length=true by rw[ak6];exact ht,AI ht];show af E.P μ φ (cs.getD t .top) _;have hx:t<zv.cells.size:=by omega
       rw[show cs.getD t .top=cs[t] by simp[List.getD,ht],show zv.cells.getD t undef=zv.cells[t] by simp[Array.getD,hx]];exact x2 t _ _ (cN ht) (OF hx)
      ·rw[show Nat.blt t cs.length=false by rw[←ak3,ak6];exact ht,IS ht];exact hR.kX.fr _
     ·unfold wy at hid;cases e:Nat.blt t cs.length with
      |true=>
       rw[e]at hid;have ht:t<cs.length:=by rwa[ak6]at e
       have hid:(cs.getD t .top).has id=true:=hid;rw[show cs.getD t .top=cs[t] by simp[List.getD,ht]]at hid;exact absurd (bJ (aki ht) hid) (by rw[z6];simp)
      |false=>rw[e]at hid;exact hR.kX.live _ id hid
    obtain⟨φ1,vF,DS⟩:=g2 E.aG w0 μ φ w _ hR.toav hF0;have ZV:bR E.P μ φ1 m1 (xq cs.length F) (bM E.fn.ntmps w0 a):=by refine⟨fun t=>?_,fun t id hid=>DS.live _ id hid⟩;have:=DS.fr (t+cs.length);rw[IS (by omega),alQ]at this;exact this
    have NT:∀(i:Nat)u y,((List.range cs.length).map F)[i]?=some u→zv.cells[i]?=some y→af E.P μ φ1 u y:=fun i u y hu hy=>by
     have hi:i<cs.length:=by have:=(By.1 hu).1;simpa using this
     have sd:F i=u:=by simpa[hi]using hu
     have:=DS.fr i;rw[AI hi,sd,show zv.cells.getD i undef=y by simp[akl,hy]]at this;exact this
    obtain⟨φ',a1,a2,a3⟩:=wF E.P E.aG w0 μ φ1 w _ _ _ vF ZV (lH.box (T:=t) vF (c:=zv.cells) (by simp;omega) NT x3 (fun id hid=>by obtain⟨u,hu,hh⟩:=cz.1 hid;obtain⟨i,_,rfl⟩:=akt.1 hu;exact DS.live i id hh));refine fU (y:=.pointer (some ⟨w.heap.size,0,none⟩)) (w':=w.alloc (.cells zv.cells t)) (by simp[execOp,Cn z1 z2]) (hK _ _ μ φ' a2 a3 (.op (by rw[a1])) fun id hid=>?_);have hid:=IN hid;subst hid;simp[xm]
   rename_i Vy;have h:fresh draw site (.box cs) f m (fun f m ft=>k (.op site 0) f m ft)=some r:=h;obtain⟨f',m',hn,hk,xm,zN,wF⟩:=ef h;refine⟨_,_,_,_,hk,.make zN (fun _ f2 m2 hf hs R' k'=>by simp only[cv,hz,K4,cond_false,fresh,hs,akf,amc,cQ,abp]) fun w0 μ φ a w hR=>?_⟩;obtain⟨φ',a1,a2,a3⟩:=wF E.P E.aG w0 μ φ w _ _ _ hR.toav hR.kX (lH.box (T:=t) hR.toav (c:=zv.cells) (by omega) (z7 μ φ) z8 (fun id hid=>by rw[z6]at hid;cases hid));refine⟨.pointer (some ⟨w.heap.size,0,none⟩),w.alloc (.cells zv.cells t),μ,φ',by simp[execOp,Cn z1 z2],a2,a3,.op (by rw[a1]),fun id hid=>?_⟩;have hid:=IN hid;subst hid;simp[xm]
  ·cases h
 case box t x=>
  split at h
  ·rename_i cs hc;obtain⟨n1,n2,n3⟩:=toCells_ok hc;split at h
   ·rename_i Vy;have hdf:draw=false:=by simp only[No,akK]at Vy;exact Vy.1
    split at h
    ·rename_i ts hts;split at h
     ·rename_i hlen;obtain⟨F,m1,g1,g2⟩:=vJ h;obtain⟨f',m',hn,hk,xm,zN,wF⟩:=ef g1;refine⟨_,_,_,_,hk,⟨fun hd=>(by rw[hdf]at hd;cases hd),fun _ h=>(by have:=h (true,site) (by simp);cases this),fun w0 μ φ a w K Q hR hK=>?_⟩⟩;obtain⟨h1,h2⟩:=al hR x;obtain⟨x1,x2,x3⟩:=n3 _ _ _ _ h1;have hF0:bR E.P μ φ m (wy cs.length cs f) (fun t=>if t<cs.length then(a.eval x).cells.getD t undef else bM E.fn.ntmps w0 a (t-cs.length)):=by
       refine⟨fun t=>?_,fun t id hid=>?_⟩
       ·unfold wy;by_cases ht:t<cs.length
        ·rw[show Nat.blt t cs.length=true by rw[ak6];exact ht,AI ht];show af E.P μ φ (cs.getD t .top) _;have hx:t<(a.eval x).cells.size:=by omega
         rw[show cs.getD t .top=cs[t] by simp[List.getD,ht],show(a.eval x).cells.getD t undef=(a.eval x).cells[t] by simp[Array.getD,hx]];exact x2 t _ _ (cN ht) (OF hx)
        ·rw[show Nat.blt t cs.length=false by rw[←ak3,ak6];exact ht,IS ht];exact hR.kX.fr _
       ·unfold wy at hid;cases e:Nat.blt t cs.length with
        |true=>
         rw[e]at hid;have ht:t<cs.length:=by rwa[ak6]at e
         have hid:(cs.getD t .top).has id=true:=hid;rw[show cs.getD t .top=cs[t] by simp[List.getD,ht]]at hid;exact h2 id (n2 id (bJ (aki ht) hid))
        |false=>rw[e]at hid;exact hR.kX.live _ id hid
      obtain⟨φ1,vF,DS⟩:=g2 E.aG w0 μ φ w _ hR.toav hF0;have ZV:bR E.P μ φ1 m1 (xq cs.length F) (bM E.fn.ntmps w0 a):=by refine⟨fun t=>?_,fun t id hid=>DS.live _ id hid⟩;have:=DS.fr (t+cs.length);rw[IS (by omega),alQ]at this;exact this
      have NT:∀(i:Nat)u y,((List.range cs.length).map F)[i]?=some u→(a.eval x).cells[i]?=some y→af E.P μ φ1 u y:=fun i u y hu hy=>by
       have hi:i<cs.length:=by have:=(By.1 hu).1;simpa using this
       have sd:F i=u:=by simpa[hi]using hu
       have:=DS.fr i;rw[AI hi,sd,show(a.eval x).cells.getD i undef=y by simp[akl,hy]]at this;exact this
      obtain⟨φ',a1,a2,a3⟩:=wF E.P E.aG w0 μ φ1 w _ _ _ vF ZV (lH.box (T:=t) vF (c:=(a.eval x).cells) (by simp;omega) NT x3 (fun id hid=>by obtain⟨u,hu,hh⟩:=cz.1 hid;obtain⟨i,_,rfl⟩:=akt.1 hu;exact DS.live i id hh));refine fU (y:=.pointer (some ⟨w.heap.size,0,none⟩)) (w':=w.alloc (.cells (a.eval x).cells t)) (by simp[execOp,P5]) (hK _ _ μ φ' a2 a3 (.op (by rw[a1])) fun id hid=>?_);have hid:=IN hid;subst hid;simp[xm]
     ·cases h
    ·cases h
   rename_i Vy;have h:fresh draw site (.box cs) f m (fun f m ft=>k (.op site 0) f m ft)=some r:=h;have Vy:draw=true→(!true&&cs.any UK)=false:=fun _=>rfl;obtain⟨f',m',hn,hk,xm,zN,wF⟩:=ef h;refine⟨_,_,_,_,hk,.make zN (fun _ f2 m2 hf hs R' k'=>by simp only[cv];rw[hf x (by simp[Op.operands])];simp only[hc,fresh,hs,akf,amc,cQ,abp]) fun w0 μ φ a w hR=>?_⟩;obtain⟨h1,h2⟩:=al hR x;obtain⟨x1,x2,x3⟩:=n3 _ _ _ _ h1;obtain⟨φ',a1,a2,a3⟩:=wF E.P E.aG w0 μ φ w _ _ _ hR.toav hR.kX (lH.box (T:=t) hR.toav (c:=(a.eval x).cells) (by omega) x2 x3 (fun id hid=>h2 id (n2 id hid)));refine⟨.pointer (some ⟨w.heap.size,0,none⟩),w.alloc (.cells (a.eval x).cells t),μ,φ',by simp[execOp,P5],a2,a3,.op (by rw[a1]),fun id hid=>?_⟩;have hid:=IN hid;subst hid;simp[xm]
  ·cases h
 case build t parts=>obtain⟨v,v1,v2,v3,v4⟩:=Sv h;have SI:∀f2:Fr,(∀x∈(Op.build t parts).operands,bC E f2 x=bC E f x)→(parts.toList.map fun(x:Nat×Operand)=>(x.1,bC E f2 x.2))=parts.toList.map fun(x:Nat×Operand)=>(x.1,bC E f x.2):=fun f2 hf=>tC fun x hx=>hf x.2 (by simp only[Op.operands,al2,akt];exact⟨x,hx,rfl⟩);refine⟨_,_,_,_,v2,.read (fun f2 m2 hf _ R' k'=>by simp only[cv];rw[SI f2 hf];exact v1 _ _) fun w0 μ φ a w hR=>?_⟩;obtain⟨z,z1,z2⟩:=v4 μ φ w (parts.map fun(i,x)=>(i,a.eval x)) (by simp) (fun j i v hj=>by simp only[IT,acG]at hj;obtain⟨y,hy,he⟩:=hj;simp only[Ua]at he;obtain⟨rfl,rfl⟩:=he;refine⟨a.eval y.2,?_,(al hR y.2).1⟩;rw[Array.getElem?_map,←akL,hy];rfl);refine⟨z,by simp only[execOp,Sem.run_bind,z1,Result.andThen_ok,Sem.run_pure],z2,fun id hid=>?_⟩;have h5:=v3 id hid;rw[al5]at h5;obtain⟨u,hu,hh⟩:=cz.1 h5;obtain⟨y,hy,rfl⟩:=akt.1 hu;exact(al hR y.2).2 id hh
 case load t x=>obtain⟨v,ft,v1,v2,v3,v4⟩:=KY h;refine⟨_,_,_,_,v2,.read (fun f2 m2 hf hm R' k'=>by simp only[cv];rw[hf x (by simp[Op.operands])];exact v1 m2 hm _ _) fun w0 μ φ a w hR=>?_⟩;obtain⟨y,y1,y2,y3⟩:=v4 _ _ _ _ _ _ hR.toav (al hR x).1;exact⟨y,by simp[execOp,y1],y2,y3⟩
 case store t x y=>
  obtain⟨m',ft,k1,k2,k3,k4⟩:=Sr h;refine⟨_,_,_,_,k1,⟨fun hd=>?_,fun h _=>by(simp[fk]at h),fun w0 μ φ a w K Q hR hK=>?_⟩⟩
  ·obtain⟨id,b,rfl,rfl,d3⟩:=k2 hd;refine⟨rfl,[(id,b)],rfl,by simp,fun f2 m2 hf hm R' k'=>?_⟩;simp only[cv];rw[hf x (by simp[Op.operands]),hf y (by simp[Op.operands])];exact d3 m2 (hm (true,id) (by simp)) _ _
  ·obtain⟨w',μ',s1,s2,s3⟩:=k4 _ _ _ _ _ _ _ hR.toav (al hR x).1 (al hR y).1 (al hR y).2;exact xG (by simp[execOp,s1]) (hK undef w' μ' φ s3 (hR.kX.nA s2 k3) .top (by simp))
 case nilCheck x=>
  have key:∀{v},bC E f x=v→(∀(μ:Ro)(φ:Nat→aA)y,af E.P μ φ v y→(∃ad,y=.pointer (some ad))∨∃g xs ys,y=.func (.func g) xs ys)→k v f m []=some r→(∀(R':Type)(k':V→Fr→Mem→bq→Option R')(f2:Fr)(m2:Mem),bC E f2 x=v→cv E true site {dst,op:=.nilCheck x,type,pos,after,guard} f2 m2 k'=k' v f2 m2 [])→∃v f' m' ft,k v f' m' ft=some r∧vI E draw site {dst,op:=.nilCheck x,type,pos,after,guard} f m v f' m' ft:=by
   intro v hv hp hk hn;refine⟨v,f,m,[],hk,.read (fun f2 m2 hf _ R' k'=>hn R' k' f2 m2 (by rw[hf x (by simp[Op.operands]),hv])) fun w0 μ φ a w hR=>?_⟩;obtain⟨h1,h2⟩:=al hR x;rw[hv]at h1 h2;refine⟨a.eval x,?_,h1,h2⟩;rcases hp μ φ _ h1 with⟨ad,e⟩|⟨g,xs,ys,e⟩
   ·simp only[execOp,e];rfl
   ·simp only[execOp,e];rfl
  split at h
  ·rename_i cs hx;exact key hx (fun μ φ y hy=>by cases hy with|pv hy=>cases hy;exact .inl ⟨_,rfl⟩) h fun R' k' f2 m2 e=>by simp only[cv,e]
  ·rename_i id off hx;exact key hx (fun μ φ y hy=>by cases hy;exact .inl ⟨_,rfl⟩) h fun R' k' f2 m2 e=>by simp only[cv,e]
  ·rename_i id i off hx;exact key hx (fun μ φ y hy=>by cases hy;exact .inl ⟨_,rfl⟩) h fun R' k' f2 m2 e=>by simp only[cv,e]
  ·rename_i id i off s j off2 hx;exact key hx (fun μ φ y hy=>by cases hy;exact .inl ⟨_,rfl⟩) h fun R' k' f2 m2 e=>by simp only[cv,e]
  ·rename_i g cs hx;exact key hx (fun μ φ y hy=>by cases hy;exact .inr (sb _ _)) h fun R' k' f2 m2 e=>by simp only[cv,e]
  ·rename_i g cs hx;exact key hx (fun μ φ y hy=>by cases hy with|pv hy=>cases hy;exact .inr (sb _ _)) h fun R' k' f2 m2 e=>by simp only[cv,e]
  ·cases h
 case binOp op t x y ty=>
  have uO:∀(f2:Fr)(m2:Mem)(R':Type)(k':V→Fr→Mem→bq→Option R')(d:Bool),bC E f2 x=bC E f x→bC E f2 y=bC E f y→cv E d site ⟨dst,.binOp op t x y ty,type,pos,after,guard⟩ f2 m2 k'=KL E op t y (bC E f x) (bC E f y) fun p=>k' (.pv p) f2 m2 []:=by
   intro f2 m2 R' k' d e1 e2;simp only[cv];rw[e1,e2];split
   ·rename_i s es h1 h2;exact absurd h2 (hb op t x y ty s es rfl h1)
   ·rfl
  have h:cv E draw site ⟨dst,.binOp op t x y ty,type,pos,after,guard⟩ f m k=some r:=by simp only[cv];exact h
  rw[uO f m R k draw rfl rfl]at h;obtain⟨q,q1,q2,q3⟩:=Vu h;refine⟨_,_,_,_,q2,.read (fun f2 m2 hf hm R' k'=>by rw[uO f2 m2 R' k' true (hf x (by simp[Op.operands])) (hf y (by simp[Op.operands]))];exact q1 _ _) fun w0 μ φ a w hR=>?_⟩;obtain⟨z,z1,z2⟩:=q3 μ φ w x _ _ (fun hn=>by
   unfold Ew at hn;split at hn
   ·rfl
   ·cases hn) (al hR x).1 (al hR y).1
  exact⟨z,by simp only[tR]at z1;simp only[execOp,Sem.run_bind,Sem.run_pure]at z1⊢;rw[z1];rfl,.pv z2,by simp⟩
 case unOp op t x=>obtain⟨q,q1,q2,q3⟩:=acQ h;refine⟨_,_,_,_,q2,.read (fun f2 m2 hf hm R' k'=>by simp only[cv];rw[hf x (by simp[Op.operands])];exact q1 _ _) fun w0 μ φ a w hR=>?_⟩;obtain⟨z,z1,z2⟩:=q3 E.P μ φ w _ (al hR x).1;exact⟨z,by simp[execOp,z1],.pv z2,by simp⟩
 case convert s d x=>obtain⟨q,ft,q1,q2,_,q3⟩:=SM h;refine⟨_,_,_,_,q2,.read (fun f2 m2 hf hm R' k'=>by simp only[cv];rw[hf x (by simp[Op.operands])];exact q1 m2 hm _ _) fun w0 μ φ a w hR=>?_⟩;obtain⟨z,z1,z2⟩:=q3 _ _ μ φ w _ hR.toav (al hR x).1;exact⟨z,by simp[execOp,z1],.pv z2,by simp⟩
 case fieldAddr s x j=>obtain⟨v,v1,v2,v3,v4⟩:=G3 h;refine⟨_,_,_,_,v2,.read (fun f2 m2 hf hm R' k'=>by simp only[cv];rw[hf x (by simp[Op.operands])];exact v1 _ _) fun w0 μ φ a w hR=>?_⟩;obtain⟨z,z1,z2⟩:=v4 μ φ w _ (al hR x).1;exact⟨z,by simp[execOp,z1],z2,fun id hid=>(al hR x).2 id (by rw[←v3];exact hid)⟩
 case field s x j=>obtain⟨v,v1,v2,v3,v4⟩:=Si h;refine⟨_,_,_,_,v2,.read (fun f2 m2 hf hm R' k'=>by simp only[cv];rw[hf x (by simp[Op.operands])];exact v1 _ _) fun w0 μ φ a w hR=>?_⟩;obtain⟨z,z1,z2⟩:=v4 μ φ w _ (al hR x).1;exact⟨z,by simp[execOp,z1],z2,fun id hid=>(al hR x).2 id (v3 id hid)⟩
 case indexAddr t x ix=>obtain⟨v,ft,v1,v2,v3,v4,v5⟩:=G4 h;refine⟨_,_,_,_,v2,.read (fun f2 m2 hf hm R' k'=>by simp only[cv];rw[hf x (by simp[Op.operands]),hf ix (by simp[Op.operands])];exact v1 m2 hm _ _) fun w0 μ φ a w hR=>?_⟩;obtain⟨z,z1,z2⟩:=v5 _ _ μ φ w _ _ hR.toav (al hR x).1 (al hR ix).1;exact⟨z,by simp[execOp,z1],z2,fun id hid=>(al hR x).2 id (v4 id hid)⟩
 case index t x ix=>obtain⟨v,v1,v2,v3,v4⟩:=Sj h;refine⟨_,_,_,_,v2,.read (fun f2 m2 hf hm R' k'=>by simp only[cv];rw[hf x (by simp[Op.operands]),hf ix (by simp[Op.operands])];exact v1 _ _) fun w0 μ φ a w hR=>?_⟩;obtain⟨z,z1,z2⟩:=v4 μ φ w _ _ (al hR x).1 (al hR ix).1;exact⟨z,by simp[execOp,z1],z2,fun id hid=>(al hR x).2 id (v3 id hid)⟩
 case lookup t x ix ok=>
  split at h
  ·rename_i hn;have tt:ok=false:=by cases ok<;>simp at hn⊢
   subst tt;obtain⟨id,b1,b2,m',rfl,hk,hs,uQ,U4,hid,ND,acY⟩:=Vm h;refine⟨_,_,_,_,hk,⟨fun hd=>⟨rfl,[(id,b1),(site,b2)],rfl,by simp,fun f2 m2 hf hm R' k'=>?_⟩,fun _ h=>absurd (h (true,id) (by simp)) (by simp),fun w0 μ φ a w K Q hR hK=>?_⟩⟩
   ·simp only[cv];rw[AI hn,hf x (by simp[Op.operands]),hf ix (by simp[Op.operands])];exact ND m2 (hm (true,id) (by simp)) (by rw[hm (true,site) (by simp)];exact hs) _ _
   ·obtain⟨u,φ',u1,u2,u3,u4⟩:=acY _ _ _ _ _ _ _ _ _ hR.toav hR.kX (al hR x).1 (al hR ix).1;exact fU (y:=u) (w':=w) (by simp[execOp,u1]) (hK u w μ φ' u2 u3 u4 fun j hj=>by have hj:=IN hj;subst hj;simp[uD])
  rename_i hn;obtain⟨v,ft,v1,v2,v3,v4,v5⟩:=NH h;refine⟨_,_,_,_,v2,.read (fun f2 m2 hf hm R' k'=>by simp only[cv];rw[IS hn,hf x (by simp[Op.operands]),hf ix (by simp[Op.operands])];exact v1 m2 hm _ _) fun w0 μ φ a w hR=>?_⟩;obtain⟨z,z1,z2⟩:=v5 _ _ μ φ w _ _ hR.toav (al hR x).1 (al hR ix).1;exact⟨z,by simp[execOp,z1],z2,fun id hid=>by rw[v4]at hid;cases hid⟩
 case mapUpdate t x key val=>
  obtain⟨m',ft,k1,k2,k3,k4⟩:=zP h;refine⟨_,_,_,_,k1,⟨fun hd=>?_,fun h _=>by(simp[fk]at h),fun w0 μ φ a w K Q hR hK=>?_⟩⟩
  ·obtain⟨id,b,rfl,rfl,d3⟩:=k2 hd;refine⟨rfl,[(id,b)],rfl,by simp,fun f2 m2 hf hm R' k'=>?_⟩;simp only[cv];rw[hf x (by simp[Op.operands]),hf key (by simp[Op.operands]),hf val (by simp[Op.operands])];exact d3 m2 (hm (true,id) (by simp)) _ _
  ·obtain⟨w',μ',s1,s2,s3⟩:=k4 _ _ _ _ _ _ _ _ hR.toav (al hR x).1 (al hR key).1 (al hR val).1;exact xG (by simp[execOp,s1]) (hK undef w' μ' φ s3 (hR.kX.nA s2 k3) .top (by simp))
 case insert t x key val=>
  obtain⟨m',ft,k1,k2,k3,k4⟩:=zP h;refine⟨_,_,_,_,k1,⟨fun hd=>?_,fun h _=>by(simp[fk]at h),fun w0 μ φ a w K Q hR hK=>?_⟩⟩
  ·obtain⟨id,b,rfl,rfl,d3⟩:=k2 hd;refine⟨rfl,[(id,b)],rfl,by simp,fun f2 m2 hf hm R' k'=>?_⟩;simp only[cv];rw[hf x (by simp[Op.operands]),hf key (by simp[Op.operands]),hf val (by simp[Op.operands])];exact d3 m2 (hm (true,id) (by simp)) _ _
  ·obtain⟨w',μ',s1,s2,s3⟩:=k4 _ _ _ _ _ _ _ _ hR.toav (al hR x).1 (al hR key).1 (al hR val).1;exact xG (by simp[execOp,s1]) (hK undef w' μ' φ s3 (hR.kX.nA s2 k3) .top (by simp))
 case extract t i=>
  split at h
  ·rename_i vs hx;split at h
   ·rename_i v hv;refine⟨_,_,_,_,h,.read (fun f2 m2 hf hm R' k'=>by simp only[cv];rw[hf t (by simp[Op.operands]),hx];simp only[hv]) fun w0 μ φ a w hR=>?_⟩;obtain⟨h1,h2⟩:=al hR t;rw[hx]at h1 h2;generalize hy:a.eval t=y at h1;cases h1 with
    | @aO _ xs t1 t2=>
     have bZ:i<xs.size:=by have:=(By.1 hv).1;omega
     refine⟨xs[i],by simp[execOp,hy,Instr.extract,bZ],t2 i v _ hv (OF bZ),fun id hid=>h2 id (by simp only[V.has];exact bJ (aeB hv) hid)⟩
   ·cases h
  ·cases h
 case makeSlice t l c=>
  obtain⟨f',m',b,hd,hk,xm,hs⟩:=G9 h;refine⟨_,_,_,_,hk,.make (fun zN=>⟨(hd zN).1,(hd zN).2.1,(hd zN).2.2.1⟩) (fun zN f2 m2 hf hs' R' k'=>?_) fun w0 μ φ a w hR=>?_⟩
  ·simp only[cv];rw[hf l (by simp[Op.operands]),hf c (by simp[Op.operands])];exact(hd zN).2.2.2 f2 m2 hs' _ _
  ·obtain⟨w',y,φ',r1,r2,r3,r4⟩:=hs _ w0 μ φ w (bM E.fn.ntmps w0 a) _ _ hR.toav hR.kX (al hR l).1 (al hR c).1;refine⟨y,w',μ,φ',by simp[execOp,r1],r2,r3,r4,fun id hid=>?_⟩;have hid:=IN hid;subst hid;exact xm
 case makeMap t hint=>
  split at h
  ·rename_i hh;split at h
   ·rename_i kt et hu;split at h
    ·rename_i hk;obtain⟨ks,U0⟩:=akq.1 hk;have ND:∀f2:Fr,(∀x∈(Op.makeMap t hint).operands,bC E f2 x=bC E f x)→I3 E f2 hint=true:=fun f2 hf=>by
      cases hint with
      |none=>rfl
      |some x=>simp only[I3]at hh⊢;rw[hf x (by simp[Op.operands])];exact hh
     have mk:∀b:bH,(∀i off,b.rowAt i off=true→False)→(∀(μ:Ro)(φ':Nat→aA)(w:World),(φ' site).g=some w.heap.size→gM E.P μ φ' (w.alloc (.map #[] 0)) site b)→(∀id,b.names id=false)→(∀st,b≠.loop st)→fresh draw site b f m (fun f m ft=>k (.om site) f m ft)=some r→(∀(f2:Fr)(m2:Mem),(∀x∈(Op.makeMap t hint).operands,bC E f2 x=bC E f x)→m2 site=none→∀(R':Type)(k':V→Fr→Mem→bq→Option R'),cv E true site ⟨dst,.makeMap t hint,type,pos,after,guard⟩ f2 m2 k'=k' (.om site) f2 (ao m2 site b) [(true,site)])→∃v f' m' ft,k v f' m' ft=some r∧vI E draw site ⟨dst,.makeMap t hint,type,pos,after,guard⟩ f m v f' m' ft:=by
      intro b Na lL hnm hlp h US;obtain⟨f',m',hn,DT,xm,zN,wF⟩:=ef h Na;refine⟨_,_,_,_,DT,.make zN (fun _ f2 m2 hf hs R' k'=>US f2 m2 hf hs R' k') fun w0 μ φ a w hR=>?_⟩;obtain⟨φ',a1,a2,a3⟩:=wF E.P E.aG w0 μ φ w _ _ (DQ (some w.heap.size) 0 0 0) hR.toav hR.kX (lH.alloc (o:=.map #[] 0) hR.toav rfl (fun φ' hp _=>lL _ _ _ (by rw[hp])) (fun id hid=>by rw[hnm]at hid;cases hid) (fun st h=>absurd h (hlp st)));have uJ:(Instr.makeMap t (hint.map a.eval)).run E.P w=.ok (.map (some w.heap.size)) (w.alloc (.map #[] 0)):=by
       cases hint with
       |none=>rfl
       |some x=>
        have h1:=(al hR x).1;simp only[I3]at hh;split at hh
        ·rename_i q n hx;rw[hx]at h1;generalize hy:a.eval x=y at h1;cases h1 with
         |pv h1=>cases h1;simp[Instr.makeMap,hy,run_underlying hu,Go.asInt,asIntOf,newObj];rfl
        ·cases hh
      refine⟨.map (some w.heap.size),w.alloc (.map #[] 0),μ,φ',by simp only[execOp,Sem.run_bind,uJ];rfl,a2,a3,.om (by rw[a1]),fun id hid=>?_⟩;have hid:=IN hid;subst hid;simp[xm]
     split at h
     ·rename_i acZ;split at h
      ·rename_i e hue;exact mk (.fh kt e []) (fun i off h=>by cases off<;>simp[bH.rowAt]at h) (fun μ φ' w hg=>⟨w.heap.size,#[],0,ks,hg,fM w _,rfl,U0,by simp,fun i e h=>by simp at h,by simp⟩) (fun _=>rfl) (fun st h=>by cases h) h fun f2 m2 hf hs R' k'=>by simp only[cv,ND f2 hf,hu,hk,fresh,hs,Ko,acZ,hue]
      ·cases h
     ·rename_i acZ;exact mk (.map kt []) (fun i off h=>by simp[bH.rowAt]at h) (fun μ φ' w hg=>K8 U0 hg) (fun _=>rfl) (fun st h=>by cases h) h fun f2 m2 hf hs R' k'=>by simp only[cv,ND f2 hf,hu,hk,fresh,hs,Ko];rw[IS acZ]
    ·cases h
   ·cases h
  ·cases h
 case makeFunc fn first caps=>
  cases fn<;>simp only at h;case func g=>
   cases Uw:Nat.blt g Eu with
   |false=>rw[Uw]at h;cases h
   |true=>
   rw[Uw]at h;simp only[cond_true]at h;split at h
   ·rename_i ac0;have hf0:first= #[]:=by simpa using ac0
    subst hf0;refine⟨_,_,_,_,h,.read (fun f2 m2 hf hm R' k'=>?_) fun w0 μ φ a w hR=>⟨.func (.func g) #[] (caps.map a.eval),by simp[execOp,Instr.makeFunc],by rw[←sa Uw];exact .fn (lZ hR).1 (lZ hR).2,fun id hid=>rG hR (by simpa only[V.has]using hid)⟩⟩;simp only[cv,Uw,cond_true];rw[AI (by simp),pD fun x hx=>hf x (by simpa[Op.operands]using hx)]
   ·rename_i ac0;split at h
    ·rename_i hcp;have K7:caps= #[]:=by simpa using hcp
     subst K7;refine⟨_,_,_,_,h,.read (fun f2 m2 hf hm R' k'=>?_) fun w0 μ φ a w hR=>⟨.func (.func g) (first.map a.eval) #[],by simp[execOp,Instr.makeFunc],by rw[←Vx];exact .fn (lZ hR).1 (lZ hR).2,fun id hid=>rG hR (by simpa only[V.has]using hid)⟩⟩;simp only[cv,Uw,cond_true];rw[IS ac0,AI (by simp),pD fun x hx=>hf x (by simpa[Op.operands]using hx)]
    ·cases h
  all_goals (cases h)
 case slice t x lo hi mx=>
  obtain⟨v,ft,v1,v2,v3,v4,v6⟩:=Sk h;have hlo:∀f2:Fr,(∀y∈(Op.slice t x lo hi mx).operands,bC E f2 y=bC E f y)→lo.map (bC E f2)=lo.map (bC E f)∧hi.map (bC E f2)=hi.map (bC E f)∧mx.map (bC E f2)=mx.map (bC E f):=fun f2 hf=>by
   refine⟨?_,?_,?_⟩
   ·cases lo with
    |none=>rfl
    |some y=>simp only[akb];rw[hf y (by simp[Op.operands])]
   ·cases hi with
    |none=>rfl
    |some y=>simp only[akb];rw[hf y (by simp[Op.operands])]
   ·cases mx with
    |none=>rfl
    |some y=>simp only[akb];rw[hf y (by simp[Op.operands])]
  refine⟨_,_,_,_,v2,.read (fun f2 m2 hf hm R' k'=>by simp only[cv];rw[hf x (by simp[Op.operands]),(hlo f2 hf).1,(hlo f2 hf).2.1,(hlo f2 hf).2.2];exact v1 m2 hm _ _) fun w0 μ φ a w hR=>?_⟩;obtain⟨z,z1,z2⟩:=v6 _ _ μ φ w (a.eval x) (lo.map a.eval) (hi.map a.eval) (mx.map a.eval) hR.toav (al hR x).1 (fun v hv=>by
   obtain⟨y,rfl,rfl⟩:=acG.1 hv;exact⟨_,rfl,(al hR y).1⟩) (fun hv=>by cases lo<;>simp at hv⊢) (fun v hv=>by
   obtain⟨y,rfl,rfl⟩:=acG.1 hv;exact⟨_,rfl,(al hR y).1⟩) (fun hv=>by cases hi<;>simp at hv⊢) (fun v hv=>by
   obtain⟨y,rfl,rfl⟩:=acG.1 hv;exact⟨_,rfl,(al hR y).1⟩) (fun hv=>by cases mx<;>simp at hv⊢)
  exact⟨z,by simp[execOp,z1],z2,fun id hid=>(al hR x).2 id (v4 id hid)⟩
 case buildSlice t len parts=>
  split at h
  ·rename_i e hu;split at h
   ·rename_i Ur;split at h
    ·rename_i cs oF;split at h
     ·rename_i hc;obtain⟨hlen,uO,Cq,P7⟩:=hc;obtain⟨zc,Ut⟩:=akq.1 P7;obtain⟨iz,zv,z1,z2,z3,_⟩:=eu Ut;obtain⟨p1,p2,p3⟩:=HT oF;obtain⟨f',m',hn,hk,xm,zN,wF⟩:=ef h;refine⟨_,_,_,_,hk,.make (b:=.box cs) zN (fun _ f2 m2 hf hs R' k'=>by have SI:(parts.toList.map fun(x:Nat×Operand)=>(x.1,bC E f2 x.2))=parts.toList.map fun(x:Nat×Operand)=>(x.1,bC E f x.2):=tC fun x hx=>hf x.2 (by simp only[Op.operands,al2,akt];exact⟨x,hx,rfl⟩);simp only[cv,hu,Ur,Ko];rw[SI];simp only[oF];rw[AI ⟨hlen,uO,Cq,P7⟩];simp only[fresh,hs]) fun w0 μ φ a w hR=>?_⟩;have Ha:parts.toList.length=len:=by rw[←hlen];simp
      have xl:cs.length=len:=by rw[p1];simp[←Ha]
      have Lf:∃c0:Array Value,c0.size=0+parts.toList.length∧∀cells,Instr.fill (fun i=>some (i*1,1)) c0 (parts.map fun(i,x)=>(i,a.eval x)).toList=some cells→(Instr.buildSlice t len (parts.map fun(i,x)=>(i,a.eval x))).run E.P w=.ok (.slice (some ⟨w.heap.size,0,none⟩) len len) (w.alloc (.cells cells e)):=by
       by_cases h0:len*aN E.P e=0
       ·have P8:len=0:=by rw[uO]at h0;omega
        refine⟨#[],by simp[Ha,P8],fun cells hf=>?_⟩;subst P8;have Kt:parts= #[]:=by apply alG;simpa using akg Ha
        subst Kt;have hf':cells= #[]:=by simpa[Instr.fill]using hf.symm
        subst hf';simp[Instr.buildSlice,run_underlying hu,sizeOf,typeInfo,z1,newRow,Instr.fill,Array.range_zero']
       ·refine⟨(Array.range (len*aN E.P e)).map (zv.cells[·%zv.cells.size]!),by simp[Ha,uO],fun cells hf=>?_⟩;exact run_buildSlice w t e len _ cells iz zv hu z1 z2 (by rw[z3,uO];omega) (by rw[z3];exact h0) (by rw[z3];simp only[uO]at hf⊢;exact hf)
      obtain⟨c0,c1,c2⟩:=Lf;obtain⟨c',d1,d2,d3,d4⟩:=p3 E.P μ φ (parts.map fun(i,x)=>(i,a.eval x)).toList c0 (by simp) (fun j i v hj=>by simp only[IT,acG]at hj;obtain⟨y,hy,he⟩:=hj;simp only[Ua]at he;obtain⟨rfl,rfl⟩:=he;exact⟨a.eval y.2,by simp[hy],(al hR y.2).1⟩) (by rw[c1];simp);have oP:c'.size=cs.length:=by rw[d2,c1,xl];omega
      have fe:∀(i:Nat)u y,cs[i]?=some u→c'[i]?=some y→af E.P μ φ u y∧y.oneCell'=true:=fun i u y hu hy=>by obtain⟨z,e1,e2,e3⟩:=d4 i u hu;rw[akV,hy]at e1;cases e1;exact⟨e2,e3⟩
      obtain⟨φ',a1,a2,a3⟩:=wF E.P E.aG w0 μ φ w (w.alloc (.cells c' e)) _ (DQ (some w.heap.size) len cs.length 1) hR.toav hR.kX (lH.alloc (o:=.cells c' e) hR.toav rfl (fun φ' hp Zm=>⟨w.heap.size,c',e,by rw[hp],fM w _,oP,fun i u y hu hy=>(fe i u y hu hy).1.mono (fun _ _ h=>h) fun id hid=>Zm id (bJ (aeB hu) hid),fun i y hy=>by
       have bZ:=(abq.1 hy).1;have hu:cs[i]?=some (cs[i]'(by omega)):=cN (by omega);exact(fe i _ y hu hy).2,by rw[hp]⟩) (fun id hid=>by
       have h5:=p2 id hid;rw[al5]at h5;obtain⟨u,hu,hh⟩:=cz.1 h5;obtain⟨y,hy,rfl⟩:=akt.1 hu;exact(al hR y.2).2 id hh))
      refine⟨.slice (some ⟨w.heap.size,0,none⟩) len len,w.alloc (.cells c' e),μ,φ',by simp only[execOp,Sem.run_bind,c2 c' d1,Result.andThen_ok,Sem.run_pure],a2,a3,?_,fun id hid=>?_⟩
      ·have:=af.os (P:=E.P) (μ:=μ) (φ:=φ') (id:=site) (g:=w.heap.size) (by rw[a1]);rw[a1,xl]at this;exact this
      ·have hid:=IN hid;subst hid;simp[xm]
     ·cases h
    ·cases h
   rename_i aia;have hnf:PS E e=false:=by simpa using aia
   split at h
   ·rename_i hfz;split at h
    ·rename_i es m1 Jn;split at h
     ·rename_i hc;obtain⟨hlen,fl,Cq,P7⟩:=hc;obtain⟨zc,Ut⟩:=akq.1 P7;obtain⟨iz,zv,z1,z2,z3,_⟩:=eu Ut;have hpm:=(sq Jn).2 m;obtain⟨p1,p2,p3⟩:=tV hpm;refine⟨_,_,_,_,h,⟨fun hd=>⟨rfl,[],rfl,by simp,fun f2 m2 hf _ R' k'=>?_⟩,fun _ _=>⟨rfl,rfl⟩,fun w0 μ φ a w K Q hR hK=>?_⟩⟩
      ·have SI:(parts.toList.map fun(x:Nat×Operand)=>(x.1,bC E f2 x.2))=parts.toList.map fun(x:Nat×Operand)=>(x.1,bC E f x.2):=tC fun x hx=>hf x.2 (by simp only[Op.operands,al2,akt];exact⟨x,hx,rfl⟩);simp only[cv,hu,hnf,cQ,abp,hfz,Ko];rw[SI];simp only[Jn];rw[AI ⟨hlen,fl,Cq,P7⟩];rfl
      have Ha:parts.toList.length=len:=by rw[←hlen,p2];simp
      have Lf:∃c0:Array Value,c0.size=(0+parts.toList.length)*aN E.P e∧∀cells,Instr.fill (fun i=>some (i*aN E.P e,aN E.P e)) c0 (parts.map fun(i,x)=>(i,a.eval x)).toList=some cells→(Instr.buildSlice t len (parts.map fun(i,x)=>(i,a.eval x))).run E.P w=.ok (.slice (some ⟨w.heap.size,0,none⟩) len len) (w.alloc (.cells cells e)):=by
       by_cases h0:len*aN E.P e=0
       ·have P8:len=0:=by rcases Nat.mul_eq_zero.1 h0 with h|h<;>omega
        refine⟨#[],by simp[Ha,P8],fun cells hf=>?_⟩;subst P8;have Kt:parts= #[]:=by apply alG;simpa using akg Ha
        subst Kt;have hf':cells= #[]:=by simpa[Instr.fill]using hf.symm
        subst hf';simp[Instr.buildSlice,run_underlying hu,sizeOf,typeInfo,z1,newRow,Instr.fill,Array.range_zero']
       ·refine⟨(Array.range (len*aN E.P e)).map (zv.cells[·%zv.cells.size]!),by simp[Ha],fun cells hf=>?_⟩;exact run_buildSlice w t e len _ cells iz zv hu z1 z2 (by rw[z3];omega) (by rw[z3];exact h0) (by rw[z3];exact hf)
      obtain⟨c0,c1,c2⟩:=Lf;obtain⟨μ',c',d1,d2,d3,d4,d5⟩:=p3 E.P E.aG w0 μ φ w (parts.map fun(i,x)=>(i,a.eval x)).toList [] c0 hR.toav (by simp) (fun j i v hj=>by simp only[IT,acG]at hj;obtain⟨y,hy,he⟩:=hj;simp only[Ua]at he;obtain⟨rfl,rfl⟩:=he;exact⟨a.eval y.2,by simp[hy],(al hR y.2).1⟩) rfl (by simpa using c1) (by simpa using Cells.nil);simp only[alz]at d5;have hb:lM w.heap.size w (w.alloc (.cells c' e)):=(lM.refl _ w).alloc (akk _) _;have hA:aH E.P μ' (fun _=>DQ (some w.heap.size) len es.length (aN E.P e)) (w.alloc (.cells c' e)) 0 (aN E.P e) e es:=aH.pO (g:=w.heap.size) rfl rfl fl (by simp only[maxLen,DQ];have:len*1≤len*aN E.P e:=alr _ fl;omega) (fM w _) (by simp only[DQ];rw[d4];simp[←Ha]) (by simp only[DQ];omega) (by have h1:=d5.len;rw[akE (by rw[h1];exact akk _)];exact d5);have Dg:=kU d2 (w.alloc (.cells c' e));have hV:=hA.Jd (g:=w.heap.size) rfl (lo:=0) (len:=len) (by omega) (cap:=len) (by simp only[DQ];omega) (akk _) Dg (by simp[cm]);rw[ane,am2,akE (by omega)]at hV;exact fU (by simp only[execOp,Sem.run_bind,c2 c' d3,Result.andThen_ok,Sem.run_pure]) (hK _ _ _ φ (d2.called hb) ((hR.kX.nA d1 p1).nA Dg (.refl _)) (.pv hV) (fun id hid=>by cases hid))
     ·cases h
    ·cases h
   rename_i aib;split at h
   ·rename_i es m1 Jn;split at h
    ·rename_i hc;obtain⟨hlen,fl,Cq,P7⟩:=hc;obtain⟨zc,Ut⟩:=akq.1 P7;obtain⟨iz,zv,z1,z2,z3,_⟩:=eu Ut;have Zr:∃mm,mm=(if draw then m else m1)∧fb m (aN E.P e) (ax E.P e) 0 (parts.toList.map fun(i,x)=>(i,bC E f x))=some (es,mm):=by
      cases draw with
      |true=>exact⟨m,rfl,(sq Jn).2 m⟩
      |false=>exact⟨m1,rfl,Jn⟩
     obtain⟨mm,hme,hpm⟩:=Zr;rw[←hme]at h;obtain⟨p1,p2,p3⟩:=tV hpm;obtain⟨f',m',hn,hk,xm,zN,wF⟩:=ef h;refine⟨_,_,_,_,hk,.make (b:=.arr (aN E.P e) e es) (fun hd=>by
      have:=zN hd;rw[hd]at hme;simp only[Ko]at hme;rw[hme]at this;exact this) (fun hd f2 m2 hf hs R' k'=>by
      subst hd;have SI:(parts.toList.map fun(x:Nat×Operand)=>(x.1,bC E f2 x.2))=parts.toList.map fun(x:Nat×Operand)=>(x.1,bC E f x.2):=tC fun x hx=>hf x.2 (by simp only[Op.operands,al2,akt];exact⟨x,hx,rfl⟩);simp only[cv,hu,hnf,cQ,abp,aib,Ko];rw[SI];simp only[Ko]at Jn;simp only[Jn];rw[AI ⟨hlen,fl,Cq,P7⟩];simp only[fresh,hs]) fun w0 μ φ a w hR=>?_⟩
     have Ha:parts.toList.length=len:=by rw[←hlen,p2];simp
     have Lf:∃c0:Array Value,c0.size=(0+parts.toList.length)*aN E.P e∧∀cells,Instr.fill (fun i=>some (i*aN E.P e,aN E.P e)) c0 (parts.map fun(i,x)=>(i,a.eval x)).toList=some cells→(Instr.buildSlice t len (parts.map fun(i,x)=>(i,a.eval x))).run E.P w=.ok (.slice (some ⟨w.heap.size,0,none⟩) len len) (w.alloc (.cells cells e)):=by
      by_cases h0:len*aN E.P e=0
      ·have P8:len=0:=by rcases Nat.mul_eq_zero.1 h0 with h|h<;>omega
       refine⟨#[],by simp[Ha,P8],fun cells hf=>?_⟩;subst P8;have Kt:parts= #[]:=by apply alG;simpa using akg Ha
       subst Kt;have hf':cells= #[]:=by simpa[Instr.fill]using hf.symm
       subst hf';simp[Instr.buildSlice,run_underlying hu,sizeOf,typeInfo,z1,newRow,Instr.fill,Array.range_zero']
      ·refine⟨(Array.range (len*aN E.P e)).map (zv.cells[·%zv.cells.size]!),by simp[Ha],fun cells hf=>?_⟩;exact run_buildSlice w t e len _ cells iz zv hu z1 z2 (by rw[z3];omega) (by rw[z3];exact h0) (by rw[z3];exact hf)
     obtain⟨c0,c1,c2⟩:=Lf;obtain⟨μ',c',d1,d2,d3,d4,d5⟩:=p3 E.P E.aG w0 μ φ w (parts.map fun(i,x)=>(i,a.eval x)).toList [] c0 hR.toav (by simp) (fun j i v hj=>by simp only[IT,acG]at hj;obtain⟨y,hy,he⟩:=hj;simp only[Ua]at he;obtain⟨rfl,rfl⟩:=he;exact⟨a.eval y.2,by simp[hy],(al hR y.2).1⟩) rfl (by simpa using c1) (by simpa using Cells.nil);simp only[alz]at d5;obtain⟨φ',a1,a2,a3⟩:=wF E.P E.aG w0 μ' φ w _ _ (DQ (some w.heap.size) len es.length (aN E.P e)) d2 (hR.kX.nA d1 p1) (lH.alloc (o:=.cells c' e) d2 rfl (fun φ' hp _=>aH.pO (g:=w.heap.size) (by rw[hp]) rfl fl (by rw[hp];simp only[maxLen];have:len*1≤len*aN E.P e:=alr _ fl;omega) (fM w _) (by rw[hp,d4];simp[←Ha]) (by rw[hp];simp[hlen]) (by have h1:=d5.len;rw[akE (by rw[h1];exact akk _)];exact d5)) (by simp[bH.names]));refine⟨.slice (some ⟨w.heap.size,0,none⟩) len len,w.alloc (.cells c' e),μ',φ',by simp only[execOp,Sem.run_bind,c2 c' d3,Result.andThen_ok,Sem.run_pure],a2,a3,?_,fun id hid=>?_⟩
     ·have:=af.os (P:=E.P) (μ:=μ') (φ:=φ') (id:=site) (g:=w.heap.size) (by rw[a1]);rw[a1,hlen]at this;exact this
     ·have hid:=IN hid;subst hid;simp[xm]
    ·cases h
   ·cases h
  ·cases h
 case call c=>exact absurd rfl (hc c)
 case range t x=>cases hit
 case next x s=>cases hit
 case entry x=>cases hit
 all_goals (cases h)
variable{dst:Option Nat}{after:Array Edge}{guard:Option (Nat×Bool)}
theorem Vz(hE:ku E){callee:Callee}{argTypes:Array TypeId}{type:TypeId}{pos:String}(h:cv E draw site ⟨dst,.call ⟨callee,args,argTypes⟩,type,pos,after,guard⟩ f m k=some r):(∃v f' m' ft,k v f' m' ft=some r∧vI E draw site ⟨dst,.call ⟨callee,args,argTypes⟩,type,pos,after,guard⟩ f m v f' m' ft)∨(draw=false∧Fj E ⟨dst,.call ⟨callee,args,argTypes⟩,type,pos,after,guard⟩ f m k r):=by
 unfold cv at h;simp only at h;have sn:∀f2:Fr,(∀x∈(Op.call ⟨callee,args,argTypes⟩).operands,bC E f2 x=bC E f x)→args.toList.map (bC E f2)=args.toList.map (bC E f):=fun f2 hf=>pD fun x hx=>hf x (by simp_all[Op.operands,Call.operands]);have lL:=fun{w0 μ φ a w}(hR:Rel E.P E.aG E.fn.ntmps w0 μ φ f m a w)=>lZ hR (args:=args);have known:∀(g:FuncId)(vs:List V),wx E draw site g vs f m k=some r→(∀w0 μ φ a w,Rel E.P E.aG E.fn.ntmps w0 μ φ f m a w→∃xs,(execOp a.eval ⟨dst,.call ⟨callee,args,argTypes⟩,type,pos,after,guard⟩).run E.P w=(callFunc g xs).run E.P w∧vs.length=xs.size∧(∀(i:Nat)v x,vs[i]?=some v→xs[i]?=some x→af E.P μ φ v x)∧∀id,b8 id vs=true→(m id).isSome=true)→(∀(f2:Fr)(m2:Mem),(∀x∈(Op.call ⟨callee,args,argTypes⟩).operands,bC E f2 x=bC E f x)→∀(R':Type)(k':V→Fr→Mem→bq→Option R'),cv E true site ⟨dst,.call ⟨callee,args,argTypes⟩,type,pos,after,guard⟩ f2 m2 k'=wx E true site g vs f2 m2 k')→(∃v f' m' ft,k v f' m' ft=some r∧vI E draw site ⟨dst,.call ⟨callee,args,argTypes⟩,type,pos,after,guard⟩ f m v f' m' ft)∨(draw=false∧Fj E ⟨dst,.call ⟨callee,args,argTypes⟩,type,pos,after,guard⟩ f m k r):=by
  intro g vs hx uJ ND;obtain h0|⟨zN,⟨fn,c,f1,f2,f3⟩,k5⟩:=Vi hE hx;rotate_left
  ·refine .inr ⟨zN,And.intro (fun c x y h=>by cases h) fun rd w0 μ φ a w K Q _ hR hK=>Cr (fun c h=>by cases h) ?_⟩;obtain⟨xs,x1,x2,x3,x4⟩:=uJ w0 μ φ a w hR;unfold Oper.wp;rw[x1,za f1 f3 f2];rw[Oper.upon_enter];refine(k5 w0 μ φ _ w xs hR.toav hR.kX x2 x3 x4).mono ?_;grind
  obtain⟨v,f',m',ft,k1,k2,ks,⟨fn,c,f1,f2,f3⟩,k5⟩:=h0;refine .inl ⟨v,f',m',ft,k1,⟨fun hd=>?_,fun _ h=>ks h,fun w0 μ φ a w K Q hR hK=>?_⟩⟩
  ·obtain⟨d1,wr,d2,d3,d4⟩:=k2 hd;exact⟨d1,wr.toList,by rw[d2];cases wr<;>rfl,fun x hx=>(by grind),fun f2 m2 hf hm R' k'=>by rw[ND f2 m2 hf,d4 f2 m2 hm R' k'];cases wr<;>rfl⟩
  ·obtain⟨xs,x1,x2,x3,x4⟩:=uJ w0 μ φ a w hR;unfold Oper.wp;rw[x1,za f1 f3 f2];rw[Oper.upon_enter];refine(k5 w0 μ φ _ w xs hR.toav hR.kX x2 x3 x4).mono ?_;grind
 have read:∀{v:V}{ft:bq},k v f m ft=some r→(∀(f2:Fr)(m2:Mem),(∀x∈(Op.call ⟨callee,args,argTypes⟩).operands,bC E f2 x=bC E f x)→(∀x∈ft,m2 x.2=m x.2)→∀(R':Type)(k':V→Fr→Mem→bq→Option R'),cv E true site ⟨dst,.call ⟨callee,args,argTypes⟩,type,pos,after,guard⟩ f2 m2 k'=k' v f2 m2 ft)→(∀w0 μ φ a w,Rel E.P E.aG E.fn.ntmps w0 μ φ f m a w→∃y,(execOp a.eval ⟨dst,.call ⟨callee,args,argTypes⟩,type,pos,after,guard⟩).run E.P w=.ok (.value y) w∧af E.P μ φ v y∧∀id,v.has id=true→(m id).isSome=true)→(∃v f' m' ft,k v f' m' ft=some r∧vI E draw site ⟨dst,.call ⟨callee,args,argTypes⟩,type,pos,after,guard⟩ f m v f' m' ft)∨(draw=false∧Fj E ⟨dst,.call ⟨callee,args,argTypes⟩,type,pos,after,guard⟩ f m k r):=fun hk hn hs=>.inl ⟨_,_,_,_,hk,.read hn hs⟩;have one:∀{l:List Operand}{u:V},l.map (bC E f)=[u]→∃x,l=[x]∧u=bC E f x:=by simp_all
 have two:∀{l:List Operand}{u v:V},l.map (bC E f)=[u,v]→∃x y,l=[x,y]∧u=bC E f x∧v=bC E f y:=by
  intro l u v h;match l with
  |[]=>simp at h
  |[x]=>simp at h
  |[x,y]=>grind
  |_::_::_::_=>simp at h
 have four:∀{l:List Operand}{u1 u2 u3 u4:V},l.map (bC E f)=[u1,u2,u3,u4]→∃x y z t,l=[x,y,z,t]∧u1=bC E f x∧u2=bC E f y∧u3=bC E f z∧u4=bC E f t:=by
  intro l u1 u2 u3 u4 h;match l with
  |[]=>simp at h
  |[x]=>simp at h
  |[x,y]=>simp at h
  |[x,y,z]=>simp at h
  |[x,y,z,t]=>grind
  |_::_::_::_::_::_=>simp at h
 have ac1:∀{A:Type}{xs:Array A}{x:A},xs.toList=[x]→xs= #[x]:=fun h=>alG (by omega);have VA:∀{A:Type}{xs:Array A}{x y:A},xs.toList=[x,y]→xs= #[x,y]:=fun h=>alG (by omega);split at h
 ·rename_i u hu;obtain⟨x,hx,rfl⟩:=one hu;split at h
  ·rename_i t ht;obtain⟨v,ft,v1,v2,v3,v4,v5⟩:=ZL h;refine read v2 (fun f2 m2 hf hm R' k'=>?_) (fun w0 μ φ a w hR=>?_)
   ·grind [cv]
   ·have e1:=ac1 hx;have e2:=ac1 ht;subst e1;subst e2;obtain⟨z,z1,z2⟩:=v5 _ _ μ φ w _ type hR.toav (al hR x).1 (al hR x).2;exact⟨z,by simp[execOp,resolve,invoke,builtin,z1],z2,fun id hid=>by grind⟩
  ·cases h
 ·rename_i u u' hu;obtain⟨x,y,hx,rfl,rfl⟩:=two hu;split at h
  ·rename_i t t' ht;obtain⟨hd,ht',place,f',m',k1,k2,k3⟩:=NC h;subst ht';refine .inl ⟨_,_,_,_,k1,⟨fun hd'=>(by grind),fun h _=>by(simp[fk]at h),fun w0 μ φ a w K Q hR hK=>?_⟩⟩;have e1:=VA hx;have e2:=VA ht;subst e1;subst e2;obtain⟨w',z,φ',z1,z2,z3,z4⟩:=k3 _ w0 μ φ w (bM E.fn.ntmps w0 a) _ _ type hR.toav hR.kX (al hR x).1 (al hR y).1;exact fU (y:=z) (w':=w') (by simp[execOp,resolve,invoke,builtin,z1]) (hK z w' μ φ' z2 z3 z4 fun id hid=>by have hid:=IN hid;subst hid;omega)
  ·cases h
 ·rename_i u u' hu;obtain⟨x,y,hx,rfl,rfl⟩:=two hu;split at h
  ·rename_i t ts ht;obtain⟨n,id,b,ft,c1,c2,c3⟩:=Ve h;refine .inl ⟨_,_,_,_,c2,⟨fun hd=>⟨rfl,[(id,b)],rfl,by simp,fun f2 m2 hf hm R' k'=>?_⟩,fun h _=>by(simp[fk]at h),fun w0 μ φ a w K Q hR hK=>?_⟩⟩
   ·simp only[cv,sn f2 hf,hu,ht];exact c1 m2 hm _ _
   ·have e1:=VA hx;subst e1;have e2:argTypes=(t::ts).toArray:=alG (by omega);subst e2;obtain⟨w',φ',z1,z2,z3,z4⟩:=c3 _ w0 μ φ w (bM E.fn.ntmps w0 a) f _ _ ts type hR.toav hR.kX (al hR x).1 (al hR y).1;exact fU (y:=.int .i64 n) (w':=w') (by simp only[execOp,resolve,invoke,builtin,Sem.run_bind,Sem.run_pure,Result.andThen_ok];rw[show(#[x,y].map a.eval)= #[a.eval x,a.eval y] by simp,z1];rfl) (hK _ w' μ φ' z2 z3 (.pv (.int z4)) (by simp))
  ·cases h
 ·rename_i u hu;obtain⟨x,hx,rfl⟩:=one hu;split at h
  ·rename_i t ts ht;obtain⟨id,b,c1,c2,c3⟩:=Su h;refine .inl ⟨_,_,_,_,c2,⟨fun hd=>⟨rfl,[(id,b)],rfl,by simp,fun f2 m2 hf hm R' k'=>?_⟩,fun h _=>by(simp[fk]at h),fun w0 μ φ a w K Q hR hK=>?_⟩⟩
   ·simp only[cv,sn f2 hf,hu,ht];exact c1 m2 (hm (true,id) (by simp)) _ _
   ·have e1:=ac1 hx;subst e1;have e2:argTypes=(t::ts).toArray:=alG (by omega);subst e2;obtain⟨w',z1,z2,z3⟩:=c3 _ w0 μ φ w (bM E.fn.ntmps w0 a) f _ ts type hR.toav hR.kX (al hR x).1;exact fU (y:=.tuple #[]) (w':=w') (by simp only[execOp,resolve,invoke,builtin,Sem.run_bind,Sem.run_pure,Result.andThen_ok];rw[show(#[x].map a.eval)= #[a.eval x] by simp,z1];rfl) (hK _ w' μ φ z2 z3 .top (by simp))
  ·cases h
 ·rename_i u u' hu;obtain⟨x,y,hx,rfl,rfl⟩:=two hu;obtain⟨q,q1,q2,q3⟩:=U2 h;refine read q2 (fun f2 m2 hf hm R' k'=>?_) (fun w0 μ φ a w hR=>?_)
  ·grind [cv]
  ·have e1:=VA hx;subst e1;obtain⟨z,z1,z2⟩:=q3 E.P μ φ w _ _ (al hR x).1 (al hR y).1;exact⟨z,by simp[execOp,resolve,invoke,builtin,Builtin.min_,z1],.pv z2,by simp⟩
 ·rename_i u u' hu;obtain⟨x,y,hx,rfl,rfl⟩:=two hu;obtain⟨q,q1,q2,q3⟩:=Ba h;refine read q2 (fun f2 m2 hf hm R' k'=>?_) (fun w0 μ φ a w hR=>?_)
  ·grind [cv]
  ·have e1:=VA hx;subst e1;obtain⟨z,z1,z2⟩:=q3 E.P μ φ w _ _ (al hR x).1 (al hR y).1;exact⟨z,by simp[execOp,resolve,invoke,builtin,Builtin.max_,z1],.pv z2,by simp⟩
 ·rename_i u1 u2 u3 u4 hu;obtain⟨x,y,z,t,hx,rfl,rfl,rfl,rfl⟩:=four hu;obtain⟨q,q1,q2,q3⟩:=U3 h;refine read q2 (fun f2 m2 hf hm R' k'=>?_) (fun w0 μ φ a w hR=>?_)
  ·grind [cv]
  ·have e1:args= #[x,y,z,t]:=alG (by omega);subst e1;obtain⟨v1,v2,v3,z1,z2,z3,z4⟩:=q3 E.P μ φ w _ _ _ _ (al hR x).1 (al hR y).1 (al hR z).1 (al hR t).1;exact⟨v3,by simp[execOp,resolve,invoke,builtin,Builtin.max_,z1,z2,z3],.pv z4,by simp⟩
 ·rename_i _ g;refine known g _ h (fun w0 μ φ a w hR=>⟨args.map a.eval,?_,(lZ hR).1,(lZ hR).2,fun id hid=>rG hR hid⟩) (fun f2 m2 hf R' k'=>?_)
  ·simp[execOp,resolve,Deferred.ofValue,invoke,Act.eval]
  ·simp only[cv,sn f2 hf]
 ·rename_i _ tm;split at h
  ·rename_i g caps qW;refine known (wz g) _ h (fun w0 μ φ a w hR=>?_) (fun f2 m2 hf R' k'=>?_)
   ·have h1:=(al hR (.tmp tm)).1;rw[qW]at h1;have hlc:=(al hR (.tmp tm)).2;rw[qW]at hlc;generalize hy:a.eval (.tmp tm)=y at h1;cases h1 with
    | @fn _ _ xs c1 c2=>
     obtain⟨o1,o2⟩:=lZ hR (args:=args);obtain⟨b1,b2⟩:=Qe (g:=g) (by simp) o2 c1 c2;refine⟨Be g xs (args.map a.eval),?_,b1,b2,fun id hid=>?_⟩
     ·cases e:Nat.blt g Eu with
      |true=>rw[sa e]at hy;simp[execOp,resolve,Deferred.ofValue,invoke,hy,wz,Be,e]
      |false=>rw[KZ e]at hy;simp[execOp,resolve,Deferred.ofValue,invoke,hy,wz,Be,e]
     ·obtain⟨v,hv,hh⟩:=cz.1 hid;rcases Vw hv with hv|hv
      ·exact rG hR (cz.2 ⟨v,hv,hh⟩)
      ·exact hlc id (by simp only[V.has];exact cz.2 ⟨v,hv,hh⟩)
   ·have:=hf (.tmp tm) (by simp[Op.operands,Call.operands]);simp only[cv,sn f2 hf,this,qW]
  ·rename_i g caps qW;refine known (wz g) _ h (fun w0 μ φ a w hR=>?_) (fun f2 m2 hf R' k'=>?_)
   ·have h1:=(al hR (.tmp tm)).1;rw[qW]at h1;generalize hy:a.eval (.tmp tm)=y at h1;cases h1 with
    |pv h1=>cases h1 with
     | @fn _ _ xs c1 c2=>
      obtain⟨o1,o2⟩:=lZ hR (args:=args);obtain⟨b1,b2⟩:=Qe (g:=g) (caps:=caps.map .pv) (xs:=xs) (by simp) o2 (by simpa using c1) (fun i v x hv hx=>by simp only[IT,acG]at hv;obtain⟨q,hq,rfl⟩:=hv;exact .pv (c2 _ q x hq hx));refine⟨Be g xs (args.map a.eval),?_,b1,b2,fun id hid=>?_⟩
      ·cases e:Nat.blt g Eu with
       |true=>rw[sa e]at hy;simp[execOp,resolve,Deferred.ofValue,invoke,hy,wz,Be,e]
       |false=>rw[KZ e]at hy;simp[execOp,resolve,Deferred.ofValue,invoke,hy,wz,Be,e]
      ·obtain⟨v,hv,hh⟩:=cz.1 hid;rcases Vw hv with hv|hv
       ·exact rG hR (cz.2 ⟨v,hv,hh⟩)
       ·obtain⟨q,_,rfl⟩:=akt.1 hv;cases hh
   ·have:=hf (.tmp tm) (by simp[Op.operands,Call.operands]);simp only[cv,sn f2 hf,this,qW]
  ·rename_i id qW;split at h
   ·cases h
   ·rename_i zN;refine .inr ⟨by simpa using zN,And.intro (fun c x y h=>by cases h) fun rd w0 μ φ a w K Q hY hR hK=>?_⟩;have h1:=(al hR (.tmp tm)).1;rw[qW]at h1;generalize hy:a.eval (.tmp tm)=y at h1;cases h1 with
    | @yl _ g hg=>
     obtain⟨o1,o2⟩:=lZ hR (args:=args);obtain⟨fn,tmps,assign,body,y1,y2⟩:=hY _ _ _ _ _ _ _ _ h μ φ (bM E.fn.ntmps w0 a) w (args.map a.eval) hR.toav hR.kX (fun t ht=>by unfold bM;rw[IS (by omega)]) o1 o2 (fun id hid=>rG hR hid) g hg;refine⟨fun _ _=>trivial,?_⟩;rw[Oper.semAt_eq _ _ _ (fun c h=>by cases h)];have uJ:(execOp a.eval ⟨dst,.call ⟨.value (.tmp tm),args,argTypes⟩,type,pos,after,guard⟩).run E.P w=.ok (.round g fn tmps assign body) w:=by simp only[execOp,resolve,Deferred.ofValue,hy];simpa[invoke]using y1
     rw[uJ,Oper.uponIn_round];refine⟨fun h=>(by cases h),(FR.Z4 y2).mono ?_⟩;rintro e w' ⟨v,f',m',y,μ',φ',h0,rfl,_,h1,h2,h3,h4⟩;exact hK v f' m' y w' μ' φ' h0 h1 h2 h3 h4
  ·cases h
 ·cases h
theorem Lg{a b:Option R}(h:agree a b=some r):a=some r∧b=some r:=by
 unfold agree at h;split at h
 ·rename_i e;exact⟨h,by rw[←e];exact h⟩
 ·cases h
theorem SN{op:BinOp}{t:TypeId}{es:List PV}{k:Bool→Option R}(h:Nn E op t es k=some r):∃e,E.P.underlying t=some (.slice e)∧((op=.eql∧∀b,(b=true→es=[])→k b=some r)∨(op=.neq∧∀b,(b=false→es=[])→k b=some r)):=by
 unfold Nn at h;split at h
 ·rename_i e hu;refine⟨e,hu,.inl ⟨rfl,fun b hb=>?_⟩⟩;split at h
  ·obtain⟨h1,h2⟩:=Lg h;cases b<;>assumption
  ·rename_i cK;cases b with
   |true=>exact absurd (by simp[hb rfl]) cK
   |false=>exact h
 ·rename_i e hu;refine⟨e,hu,.inr ⟨rfl,fun b hb=>?_⟩⟩;split at h
  ·obtain⟨h1,h2⟩:=Lg h;cases b<;>assumption
  ·rename_i cK;cases b with
   |false=>exact absurd (by simp[hb rfl]) cK
   |true=>exact h
 ·cases h
theorem Z6{op:BinOp}{t:TypeId}{x y:Operand}{ty type:TypeId}{pos:String}{s:Nat}{es:List PV}(h:cv E draw site ⟨dst,.binOp op t x y ty,type,pos,after,guard⟩ f m k=some r)(hx:bC E f x=.pv (.rs s es))(hy:bC E f y=.iy):draw=false∧Fj E ⟨dst,.binOp op t x y ty,type,pos,after,guard⟩ f m k r:=by
 simp only[cv,hx,hy]at h;split at h
 ·cases h
 ·rename_i hd;refine⟨by simpa using hd,And.intro (fun c x y h=>by cases h) fun rd w0 μ φ a w K Q _ hR hK=>Cr (fun c h=>by cases h) ?_⟩;obtain⟨e,hu,hk⟩:=SN h;have h1:=(al hR x).1;have h2:=(al hR y).1;rw[hx]at h1;rw[hy]at h2;generalize hvx:a.eval x=vx at h1;generalize ZU:a.eval y=vy at h2;have HJ:∃(ad:Option Addr)(n c:Nat),vx=.slice ad n c∧(ad=none→es=[]):=by
   cases h1 with
   |pv h1=>
    cases h1 with
    |lG=>exact⟨none,0,0,rfl,fun _=>rfl⟩
    |G2 _=>exact⟨_,_,_,rfl,fun _=>rfl⟩
    |rs _ _ _ _ _ _ _=>exact⟨_,_,_,rfl,fun h=>by cases h⟩
  obtain⟨ad,n,c,rfl,Vk⟩:=HJ;cases h2;have go:∀b,(binOp op t (.slice ad n c) (.slice none 0 0)).run E.P w=.ok (.bool b) w→k (.pv (.bool b)) f m [(true,0)]=some r→(⟨dst,.binOp op t x y ty,type,pos,after,guard⟩:Oper).wp E.P a w K Q:=fun b hb hkb=>by refine fU (y:=.bool b) (w':=w) ?_ (hK _ _ _ _ _ _ _ hkb hR.toav hR.kX (.pv .bool) (by simp));simp only[execOp,eqGuard_at_slice,Sem.run_bind,Sem.run_pure,hvx,ZU,Result.andThen_ok];rw[hb];rfl
  rcases hk with⟨rfl,hk⟩|⟨rfl,hk⟩
  ·refine go ad.isNone (Lib.run_eql_slice_nil w t e ad n c 0 0 hu) (hk _ fun hb=>Vk (by simpa using hb))
  ·refine go (!ad.isNone) ?_ (hk _ fun hb=>Vk (by simpa using hb));simp only[binOp];simp[Op.equal,Op.maxDepth,Lib.run_equalIn_slice_nil w 9999 t e ad n c 0 0 hu]
theorem VB(h:cv E draw site o f m k=some r)(hi:Ns o.op=true):draw=false∧Fj E o f m k r:=by
 obtain⟨dst,op,type,pos,after,guard⟩:=o;unfold cv at h;cases op<;>first|(cases hi;done)|skip
 case range t x=>
  simp only at h;split at h
  ·cases h
  ·rename_i hd;refine⟨by simpa using hd,And.intro (fun c x y h=>by cases h) fun rd w0 μ φ a w K Q _ hR hK=>Cr (fun c h=>by cases h) ?_⟩;obtain⟨f',m',hk,hl,hs⟩:=SC h;obtain⟨w',y',μ',φ',r1,r2,r3,r4⟩:=hs _ _ _ _ _ _ _ hR.toav hR.kX (al hR x).1;exact fU (y:=y') (w':=w') (by simp[execOp,r1]) (hK _ _ _ _ _ _ _ hk r2 r3 r4 fun id hid=>by have:=IN hid;subst this;exact hl)
 case next x s=>
  simp only at h;split at h
  ·cases h
  ·rename_i hd;simp only[akp,ana,ak3]at hd;obtain⟨hd,rfl⟩:=hd;refine⟨hd,And.intro (fun c x y h=>by cases h) fun rd w0 μ φ a w K Q _ hR hK=>Cr (fun c h=>by cases h) ?_⟩;obtain⟨v,m',y',w',hk,hv,hl,r1,r2,r3⟩:=Vj h _ _ _ _ _ _ type hR.toav (al hR x).1;exact fU (y:=y') (w':=w') (by simp[execOp,r1]) (hK _ _ _ _ _ _ _ hk r2 (hR.kX.nA (fun _ _ h=>h) hl) r3 fun id hid=>by rw[hv id]at hid;cases hid)
 case entry x=>
  simp only at h;split at h
  ·cases h
  ·rename_i hd;refine⟨by simpa using hd,And.intro (fun c x y h=>by cases h) fun rd w0 μ φ a w K Q _ hR hK=>Cr (fun c h=>by cases h) ?_⟩;obtain⟨v,m',y',hk,hv,hl,r1,r3,r2⟩:=SD h _ _ _ _ _ _ _ hR.toav (al hR x).1;exact fU (y:=y') (w':=w) (by simp[execOp,r1]) (hK _ _ _ _ _ _ _ hk r3 (hR.kX.nA (fun _ _ h=>h) hl) r2 fun id hid=>by rw[hv id]at hid;cases hid)
theorem Z7(hE:ku E)(h:cv E draw site o f m k=some r):(∃v f' m' ft,k v f' m' ft=some r∧vI E draw site o f m v f' m' ft)∨(draw=false∧Fj E o f m k r):=by
 by_cases hc:∃c,o.op=.call c
 ·obtain⟨dst,op,type,pos,after,guard⟩:=o;obtain⟨⟨callee,args,argTypes⟩,hc⟩:=hc;simp only at hc;subst hc;exact Vz hE h
 ·by_cases hb:∃op t x y ty s es,o.op=.binOp op t x y ty∧bC E f x=.pv (.rs s es)∧bC E f y=.iy
  ·obtain⟨op,t,x,y,ty,s,es,h1,h2,h3⟩:=hb;obtain⟨dst,op',type,pos,after,guard⟩:=o;simp only at h1;subst h1;exact .inr (Z6 h h2 h3)
  ·cases hi:Ns o.op with
   |true=>exact .inr (VB h hi)
   |false=>exact .inl (Z5 hE h (fun c hcc=>hc ⟨c,hcc⟩) (fun op t x y ty s es h1 h2 h3=>hb ⟨op,t,x,y,ty,s,es,h1,h2,h3⟩) hi)
theorem Rel.Ap{nt:Nat}{P:Program}{G:Nat→Option (List PV)}{w0:bA}{μ:Ro}{φ:Nat→aA}{f:Fr}{m:Mem}{a:Act}{w:World}(h:Rel P G nt w0 μ φ f m a w){K:Ro}(hK:∀b o,K b=some o→μ b=some o)(hK0:∀b o,w0.dC b=some o→K b=some o):Rel P G nt {w0 with dC:=K} μ φ f m a w:={toav:=h.toav.Ap hK,size:=h.size,defers:=h.defers,nf:=fun b o hb=>hK0 b o (h.nf b o hb),fr:=h.fr,live:=h.live}
theorem Rel.E6{nt:Nat}{P:Program}{G:Nat→Option (List PV)}{w0:bA}{μ:Ro}{φ:Nat→aA}{f:Fr}{m:Mem}{a:Act}{w:World}{K:Ro}(h:Rel P G nt {w0 with dC:=K} μ φ f m a w)(hK:∀b o,w0.dC b=some o→K b=some o)(ho:∀b o,w0.nf b=some o→w0.dC b=some o):Rel P G nt w0 μ φ f m a w:={toav:=h.toav.E6 hK,size:=h.size,defers:=h.defers,nf:=ho,fr:=h.fr,live:=h.live}
abbrev Lh(μ μ':Ro):Prop:=∀b o,μ b=some o→μ' b=some o
theorem NW(h:cv E draw site o f m k=some r):∀c,o.op≠.defer c:=by intro c hc;obtain⟨dst,op,type,pos,after,guard⟩:=o;simp only at hc;subst hc;simp[cv]at h
theorem vI.Ar{f':Fr}{ft:bq}(h:vI E draw site o f m v f' m' ft)(hd:∀c,o.op≠.defer c)(rd:Option Nat)(w0:bA)(μ:Ro)(φ:Nat→aA)(a:Act)(w:World)(K:Act→World→Prop)(Q:Exit→Act→World→Prop)(hR:Rel E.P E.aG E.fn.ntmps w0 μ φ f m a w)(hK:∀y w' μ' φ',Lh μ μ'→av E.P E.aG w0 μ' φ' m' w'→bR E.P μ' φ' m' f' (bM E.fn.ntmps w0 a)→af E.P μ' φ' v y→(∀id,v.has id=true→(m' id).isSome=true)→K (a.put o.dst y) w'):o.wpIn (FR rd) 0 E.P a w K Q:=Cr hd (h.sound {w0 with dC:=μ} μ φ a w K Q (hR.Ap (fun _ _ h=>h) hR.dC) fun y w' μ' φ' h1 h2 h3 h4=>hK y w' μ' φ' h1.dC (h1.E6 hR.dC) h2 h3 h4)
theorem Fj.Ar(h:Fj E o f m k r)(rd:Option Nat)(w0:bA)(μ:Ro)(φ:Nat→aA)(a:Act)(w:World)(K:Act→World→Prop)(Q:Exit→Act→World→Prop)(hY:uL E.P E.aG E.fn.ntmps E.yl w0)(hR:Rel E.P E.aG E.fn.ntmps w0 μ φ f m a w)(hK:∀v f' m' y w' μ' φ',k v f' m' [(true,0)]=some r→Lh μ μ'→av E.P E.aG w0 μ' φ' m' w'→bR E.P μ' φ' m' f' (bM E.fn.ntmps w0 a)→af E.P μ' φ' v y→(∀id,v.has id=true→(m' id).isSome=true)→K (a.put o.dst y) w'):o.wpIn (FR rd) 0 E.P a w K Q:=h.2 rd {w0 with dC:=μ} μ φ a w K Q (hY.Ap hR.dC) (hR.Ap (fun _ _ h=>h) hR.dC) fun v f' m' y w' μ' φ' h0 h1 h2 h3 h4=>hK v f' m' y w' μ' φ' h0 h1.dC (h1.E6 hR.dC) h2 h3 h4
end
section
variable {R:Type} {E:Env}
variable{site:Nat}{o:Oper}{k:V→Fr→Mem→bq→Option R}
theorem NX{f:Fr}{m:Mem}{sp:Sp}{r:R}(hs:Ae E site o f m=some sp)(h:xsp E site sp f m k=some r):∃v wr,k v (kf (sp.info site).1 f) (uD wr (km (sp.info site).1 m)) (sp.info site).2=some r∧(∀x∈wr,(true,x.1)∈(sp.info site).2)∧(∀x∈(sp.info site).1,(true,x.2)∈(sp.info site).2)∧(∀(f2:Fr)(m2:Mem)(R':Type)(k':V→Fr→Mem→bq→Option R'),xsp E site sp f2 m2 k'=k' v (kf (sp.info site).1 f2) (uD wr (km (sp.info site).1 m2)) (sp.info site).2)∧(∀c,o.op≠.defer c)∧vI E false site o f m v (kf (sp.info site).1 f) (uD wr (km (sp.info site).1 m)) (sp.info site).2:=by
 obtain⟨dst,op,type,pos,after,guard⟩:=o;unfold Ae at hs;cases op;case store t a x=>
  simp only at hs;split at hs
  ·rename_i id i off ha;split at hs
   ·rename_i s et es hm;split at hs
    ·rename_i cs hc;split at hs
     ·rename_i ps j id2 ht;split at hs
      ·rename_i lI;simp only[cO]at hs;subst hs;simp only[No,AT,akK]at lI;obtain⟨⟨hb,h0⟩,cK⟩:=lI;have cK:id2≠id:=fun e=>by simp_all
       unfold xsp at h;obtain⟨e,he,h⟩:=cT.1 h;refine⟨_,_,h,by simp[Sp.info],by simp[Sp.info],fun f2 m2 R' k'=>by simp only[xsp,he,akj];rfl,by simp,⟨fun h=>(nomatch h),fun _ h=>absurd (h (true,id) (by simp[Sp.info])) (by simp),fun w0 μ φ ac w K Q hR hK=>?_⟩⟩;obtain⟨w',φ',u1,u2,u3⟩:=Vo hm hc ht hb h0 cK he hR.toav hR.kX (by have:=(al hR a).1;rw[ha]at this;exact this) (al hR x).1;exact xG (by simp[execOp,u1]) (hK undef w' μ φ' u2 u3 .top (by simp))
      ·cases hs
     ·cases hs
    ·cases hs
   ·cases hs
  ·cases hs
 case buildSlice t len parts=>
  simp only at hs;split at hs
  ·rename_i e v hu hp;split at hs
   ·rename_i cs hc;split at hs
    ·rename_i ps j id2 ht ae4;split at hs
     ·rename_i p Jn;split at hs
      ·rename_i lI;simp only[cO]at hs;subst hs;simp only[No,AT]at lI;obtain⟨⟨⟨hlen,fl⟩,Zs⟩,hz⟩:=lI;have hlen:=IN hlen;subst hlen;refine⟨_,_,h,by simp[Sp.info],by simp[Sp.info],fun f2 m2 R' k'=>rfl,by simp,⟨fun h=>(nomatch h),fun h _=>by(simp[fk]at h),fun w0 μ φ ac w K Q hR hK=>?_⟩⟩;obtain⟨x,hx,hxv⟩:∃x,parts= #[(0,x)]∧bC E f x=v:=by
        obtain⟨l⟩:=parts;match l,hp with
        |[(a,x)],hp=>simp_all
       subst hx;obtain⟨y,w',φ',u1,u2,u3,u4⟩:=SH hu hc ht ae4 Jn fl Zs hz hR.toav hR.kX (by have:=(al hR x).1;rw[hxv]at this;exact this);exact fU (y:=y) (w':=w') (by simp_all[execOp,Sem.run_bind,Result.andThen_ok,Sem.run_pure]) (hK y w' μ φ' u2 u3 u4 fun j hj=>by have hj:=IN hj;subst hj;simp[uD])
      ·cases hs
     ·cases hs
    ·cases hs
   ·cases hs
  ·cases hs
 case call c=>
  obtain⟨callee,args,argTypes⟩:=c;simp only at hs;split at hs
  ·rename_i id x t t' ha Z2;split at hs
   ·rename_i e s et es hu hm;split at hs
    ·rename_i lI;simp only[No,AT]at lI;obtain⟨⟨⟨⟨⟨h1,h2⟩,h3⟩,h4⟩,h5⟩,h6⟩:=lI;subst h3;have h1:et=e:=by omega
     subst h1;have sn:∃y z,args= #[y,z]∧bC E f y=.os id∧bC E f z=x:=by
      obtain⟨l⟩:=args;rcases l with _|⟨y,_|⟨z,_|⟨u,l⟩⟩⟩
      ·simp at ha
      ·simp at ha
      ·grind
      ·simp at ha
     obtain⟨y,z,rfl,hy,hz⟩:=sn;have Z8:argTypes= #[t',t']:=alG (by omega);subst Z8;have main:∀(new:List PV)(src:Option Nat)(rd:bq),sp=.app id s et es new src rd→((∃id2,src=some id2∧id2≠id∧x=.os id2∧m id2=some (.nest s et new))∨(src=none∧fv m s x=some (new,rd)))→∃v wr,k v (kf (sp.info site).1 f) (uD wr (km (sp.info site).1 m)) (sp.info site).2=some r∧(∀x∈wr,(true,x.1)∈(sp.info site).2)∧(∀x∈(sp.info site).1,(true,x.2)∈(sp.info site).2)∧(∀(f2:Fr)(m2:Mem)(R':Type)(k':V→Fr→Mem→bq→Option R'),xsp E site sp f2 m2 k'=k' v (kf (sp.info site).1 f2) (uD wr (km (sp.info site).1 m2)) (sp.info site).2)∧(∀c,(⟨dst,.call ⟨.builtin .append,#[y,z],#[t',t']⟩,type,pos,after,guard⟩:Oper).op≠.defer c)∧vI E false site ⟨dst,.call ⟨.builtin .append,#[y,z],#[t',t']⟩,type,pos,after,guard⟩ f m v (kf (sp.info site).1 f) (uD wr (km (sp.info site).1 m)) (sp.info site).2:=by
      intro new src rd y7 Ao;subst y7;simp only[xsp]at h;split at h
      ·rename_i fm;have hw:(true,id)∈(Sp.info site (.app id s et es new src rd)).2:=by cases src<;>simp[Sp.info]
       have hkm:uD [(id,.nest s et (es++new))] (km (Sp.info site (.app id s et es new src rd)).1 m)=ao (bh (bE id (Qc src m)) id) id (.nest s et (es++new)):=by cases src<;>rfl
       have hkf:kf (Sp.info site (.app id s et es new src rd)).1 f=eS id (kfS src f):=by cases src<;>rfl
       refine⟨_,_,h,fun q hq=>(by simp_all),fun q hq=>?_,fun f2 m2 R' k'=>by simp only[xsp];rw[AI fm],by simp,⟨fun h=>(nomatch h),fun _ h=>absurd (h (true,id) hw) (by simp),fun w0 μ φ ac w K Q hR hK=>?_⟩⟩
       ·cases src<;>simp only[Sp.info,ake,alk,amL]at hq⊢
        ·subst hq;simp
        grind
       ·obtain⟨w',y',φ',u1,u2,u3,u4⟩:=SL (ty:=type) hu hm h2 h4 h5 h6 fm Ao hR.toav hR.kX (by have:=(al hR y).1;rw[hy]at this;exact this) (by have:=(al hR z).1;rw[hz]at this;exact this);exact fU (y:=y') (w':=w') (by simp[execOp,resolve,invoke,builtin,u1]) (hK y' w' μ φ' (by rw[hkm];omega) (by rw[hkm,hkf];omega) u4 fun j hj=>by have hj:=IN hj;subst hj;simp[uD])
      ·cases h
     split at hs
     ·rename_i tl;split at hs
      ·rename_i s' GX new hm';split at hs
       ·rename_i Us;simp only[No,AT]at Us;obtain⟨⟨c1,c2⟩,c3⟩:=Us;have c1:=IN c1;subst c1;subst c2;simp only[cO]at hs;exact main new (some tl) [] hs.symm (.inl ⟨tl,rfl,fun e=>by simp_all,rfl,hm'⟩)
       ·cases hs
      grind
     grind
    ·cases hs
   ·cases hs
  ·cases hs
 case mapUpdate t x key v=>
  simp only at hs;split at hs
  ·rename_i kt et id id2 hu hx hv;split at hs
   ·rename_i xh e es s e' rs kp h1 h2 hk;split at hs
    ·rename_i lI;simp only[cO]at hs;subst hs;simp only[No,AT]at lI;obtain⟨⟨hkt,hee⟩,_⟩:=lI;subst hkt;subst hee;refine⟨_,_,h,by simp[Sp.info],by simp[Sp.info],fun f2 m2 R' k'=>rfl,by simp,⟨fun h=>(nomatch h),fun h _=>by(simp[fk]at h),fun w0 μ φ ac w K Q hR hK=>?_⟩⟩;obtain⟨w',φ',u1,u2,u3⟩:=SK hu h1 h2 hk hR.toav hR.kX (by have:=(al hR x).1;rw[hx]at this;exact this) (al hR key).1 (by have:=(al hR v).1;rw[hv]at this;exact this);exact xG (by simp[execOp,u1]) (hK undef w' μ φ' u2 u3 .top (by simp))
    ·cases hs
   ·cases hs
  ·cases hs
 all_goals (cases hs)
theorem Jo(hE:ku E){draw:Bool}{f:Fr}{m:Mem}{r:R}(h:KS E draw site o f m k=some r):(∃v f' m' ft,k v f' m' ft=some r∧vI E draw site o f m v f' m' ft)∨(draw=false∧Fj E o f m k r):=by
 unfold KS at h;split at h
 ·rename_i sp y7;cases draw with
  |true=>cases y7
  |false=>simp only[cond]at y7;grind [NX]
 ·exact Z7 hE h
theorem Ct{draw:Bool}{f:Fr}{m:Mem}{r:R}(h:KS E draw site o f m k=some r):∀c,o.op≠.defer c:=by
 unfold KS at h;split at h
 ·rename_i sp y7;cases draw with
  |true=>cases y7
  |false=>simp only[cond]at y7;grind [NX]
 ·exact NW h
end
end Go.Ab
