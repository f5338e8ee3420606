import Derived.Test.YtoaknfoobjnjgaaGreatB
import Derived.Lib.SliceRun
import Derived.Laws.IdiomStrings
import Derived.OrdersIn
import Derived.RangeFuncIn
import Derived.Scope
set_option linter.all false
open Option renaming some→U,none→Z
open Bool renaming true→Y,false→J
open Decidable renaming decide→O
open List renaming range→I
namespace Go.Ab
open Go.RowKit (Below)
section
variable {R:Type} {E:Env}
variable{t:TypeId}
def Ty{P:Program}{w:World}{ms:Array (String×TypeId)}(hu:P.underlying t=U (.interface ms)){b:Bool}{x:Value}{μ:Ro}(hx:aH P μ (.ifc b) x):(Op.equalIn 10000 t x .nilIface).run P w=.ok (!b) w:=by show(Op.equalIn (9999+1) t x .nilIface).run P w=.ok (!b) w;cases hx<;>(unfold Op.equalIn;simp only[Sem.run_bind,run_underlying hu,Result.andThen_ok];rfl)
def NV{P:Program}{w:World}{op:BinOp}{ox:Operand}{c:Value}{b:Bool}{x:Value}{μ:Ro}(hx:aH P μ (.ifc b) x):(eqGuard op t ox (.const c) x .nilIface).run P w=.ok () w:=by
 cases hx
 .rw[eqGuard_nil_constR];rfl
 .rename_i d z;have:eqGuard op t ox (.const c) (.iface d z) .nilIface=pure ():=by cases op<;>rfl
  rw[this];rfl
def ahn{op:BinOp}{oy:Operand}{a b:V}{k:PV->Option R}{r:R}(h:Xb E op t oy a b k=U r):∃q,(∀(R':Type)(k':PV->Option R'),Xb E op t oy a b k'=k' q)/\k q=U r/\∀(μ:Ro)(φ:Nat->aT)(w:World)(ox:Operand)(x y:Value),(Pj oy=Y->y=.nilIface)->az E.P μ φ a x->az E.P μ φ b y->∃z,(Cs op t ox oy x y).run E.P w=.ok z w/\aH E.P μ q z:=by
 unfold Xb at h⊢;cases hn:Pj oy with
 |false=>rw[hn]at h;have⟨q,q1,q2,q3⟩:=akN h;exact⟨q,λR' k'=>q1 R' k',q2,λμ φ w ox x y _ hx hy=>q3 μ φ w ox oy x y hx hy⟩
 |true=>
  rw[hn]at h;simp only[cond]at h⊢;have hoy:oy=.const .nilIface:=by unfold Pj at hn;grind
  subst hoy;unfold agL at h⊢;split at h
  .rename_i c;split at h
   .rename_i ms hu;refine⟨_,λR' k'=>bm,h,λμ φ w ox x y hy hx _=>?_⟩;have:=hy trivial;subst this;cases hx with
    |pv hx=>exact⟨_,cL (NV hx) (lU (by cases hx<;>rfl) (Ty hu hx)),.bool⟩
   .rename_i ms hu;refine⟨_,λR' k'=>bm,h,λμ φ w ox x y hy hx _=>?_⟩;have:=hy trivial;subst this;cases hx with
    |pv hx=>refine⟨_,cL (NV hx) (lV (by cases hx<;>rfl) (Ty hu hx)),?_⟩;rw[aAF];exact .bool
   .cases h
  .cases h
def Tz{P:Program}{μ:Ro}:∀{es:List PV}{b:Bytes}{xs:List Value},Md es=U b->Cells P μ 1 es xs->b.length=es.length/\xs=b.map λc=>.int .u8 (c.toNat:Int)
 |[],b,xs,h,hC=>by simp only[Md,tc]at h;subst h;have:=hC.len;simp_all
 |e::es,b,xs,h,hC=>by
  unfold Md at h;split at h
  next he=>cases he
  .rename_i n r he;simp only[ayW]at he;obtain⟨rfl,rfl⟩:=he;obtain⟨b',mH,rfl⟩:=asI.1 h;cases xs with
   |nil=>have:=hC.len;simp at this
   |cons x xs=>
    have hx:x=.int .u8 n/\(Lit.int .u8 n).wf=true:=by
     have:=hC.rep 0 _ 0 _ x rfl rfl rfl;cases this with
     |int hw=>exact⟨rfl,hw⟩
    obtain⟨rfl,hw⟩:=hx;have hC':Cells P μ 1 es xs:=⟨by have:=hC.len;simp at this⊢;omega,λi e hi=>hC.each (i+1) e (by simpa using hi),λi e j p y hi hj hy=>hC.rep (i+1) e j p y (by simpa using hi) hj ao,λi y hy=>hC.one (i+1) y (by simpa using hy)⟩;have⟨h1,h2⟩:=Tz mH hC';refine⟨by simp[h1],?_⟩;rw[ayb,<-h2];rw[Eu]at hw;grind [IntKind.min,IntKind.max,IntKind.signed,IntKind.bits,UInt8.ofNat,UInt8.toNat_ofNat']
  .cases h
def aeN{s d:TypeId}{a:V}{m:Mem}{k:PV->bS->Option R}{r:R}(h:Me E s d a m k=U r):∃q ft,(∀m2:Mem,(∀x∈ft,m2 x.2=m x.2)->∀(R':Type)(k':PV->bS->Option R'),Me E s d a m2 k'=k' q ft)/\k q ft=U r/\(∀x∈ft,x.1=J)/\∀(G:Nat->Option (List PV))(w0:bI)(μ:Ro)(φ:Nat->aT)(w:World)(x:Value),aR E.P G w0 μ φ m w->az E.P μ φ a x->∃z,(convert s d x).run E.P w=.ok z w/\aH E.P μ q z:=by
 unfold Me at h;split at h
 .rename_i e hs hd;split at h
  .rename_i es ft hu PO;have⟨b,hb,hk⟩:=IS.1 h;have⟨e1,e2,e3⟩:=vn PO;refine⟨.str b,ft,λm2 dC R' k'=>by simp_all[Me,ayg],hk,e2,λG w0 μ φ w x hM hx=>?_⟩;have IW:=e3 _ _ _ _ _ _ _ hM hx;cases IW with
   |none he=>subst he;simp only[Md,tc]at hb;subst hb;exact⟨_,by simp[convert,run_underlying hs,run_underlying hd,run_underlying hu,Conv.bytesToString];rfl,.str bj⟩
   | @some a c xs hC hc hl hm=>have⟨h1,h2⟩:=Tz hb hC;subst h2;rw[<-h1];refine⟨_,run_convert_bytes_back w s d e a c b hs hu hd λj hj=>hc j _ ao,.str aa⟩
  .cases h
 next JN=>have⟨q,q1,q2,q3⟩:=ag4 h;refine⟨q,[],λm2 _ R' k'=>?_,q2,ae,λG w0 μ φ w x _ hx=>q3 μ φ w x hx⟩;simp_all[Me,absurd]
end
structure ED(E:Env)(draw:Bool)(site:Nat)(o:Oper)(f:Fr)(m:Mem)(v:V)(f':Fr)(m':Mem)(ft:bS):Prop where
 drawn:draw=Y->f'=f/\∃wr:List (Nat×cS),m'=BN wr m/\(∀x∈wr,(Y,x.1)∈ft)/\∀(f2:Fr)(m2:Mem),(∀x∈o.op.operands,cd E f2 x=cd E f x)->(∀x∈ft,m2 x.2=m x.2)->∀(R':Type)(k':V->Fr->Mem->bS->Option R'),cT E Y site o f2 m2 k'=k' v f2 (BN wr m2) ft
 same:gZ o=Y->(∀x∈ft,x.1=J)->f'=f/\m'=m
 sound:∀(w0:bI)(μ:Ro)(φ:Nat->aT)(a:Act)(w:World)(K:Act->World->Prop)(Q:Exit->Act->World->Prop),Rel E.P E.aQ E.fn.ntmps w0 μ φ f m a w->(∀y w' μ' φ',aR E.P E.aQ w0 μ' φ' m' w'->cR E.P μ' φ' m' f' (cE E.fn.ntmps w0 a)->az E.P μ' φ' v y->(∀id,v.has id=Y->(m' id).isSome=Y)->K (a.put o.dst y) w')->o.wp E.P a w K Q
def FR(rd:Option Nat):Fence:={Fence.wide with round:=rd}
variable{rd:Option Nat}{P:Program}
def FR.akU{m m':Machine}:StepsIn (Machine.fenced P (FR rd)) P m m'↔Steps P m m':=stepsIn_wide (P:=P)
variable{args:Array Value}{w:World}{R:Ending->World->Prop}
def FR.acX{n:Nat}{f:FuncId}(h:Calls P f args w R):CallsIn (FR rd) n P f args w R:=(callsIn_wide (n:=n)).2 h
def FR.anT{n:Nat}{row:String}{R:Value->World->Prop}(h:Rows P row args w R):RowsIn (FR rd) n P row args w R:=λc cs _=>let⟨v,w',r,s⟩:=h c cs;⟨v,w',r,FR.akU.2 s⟩
def FR.akV{n n':Nat}{l:Nat}{f:FuncId}{tmps:Array Value}{assign body:Code}(h:RoundIn Fence.wide n P l f tmps assign body w R):RoundIn (FR rd) n' P l f tmps assign body w R:=⟨trivial,λc cs _=>h.2 c cs (room_wide _)⟩
def Ms{o:Oper}{a:Act}{K:Act->World->Prop}{Q:Exit->Act->World->Prop}(hd:∀c,o.op≠.defer c)(h:o.wp P a w K Q):o.wpIn (FR rd) 0 P a w K Q:=by
 refine⟨λ_ _=>trivial,?_⟩;rw[Oper.semAt_eq _ _ _ hd];unfold Oper.wp at h;cases hr:(execOp a.eval o).run P w with
 |ok nx w'=>
  rw[hr]at h;cases nx with
  |value v=>exact h
  |skip=>exact h
  |defer d=>exact h
  |enter f args=>exact⟨λh=>(by cases h),FR.acX h⟩
  |row row args=>exact⟨λh=>(by cases h),FR.anT h⟩
  |_=>exact h.elim
 |halt h' w'=>
  rw[hr]at h;cases h' with
  |panic v=>exact h
  |_=>exact h.elim
def P9{R:Type}(E:Env)(o:Oper)(f:Fr)(m:Mem)(k:V->Fr->Mem->bS->Option R)(r:R):Prop:=
 (∀c x y,o.op≠.pick c x y)/\
 ∀(rd:Option Nat)(w0:bI)(μ:Ro)(φ:Nat->aT)(a:Act)(w:World)(K:Act->World->Prop)(Q:Exit->Act->World->Prop),yZ E.P E.aQ E.fn.ntmps E.yl w0->Rel E.P E.aQ E.fn.ntmps w0 μ φ f m a w->(∀v f' m' y w' μ' φ',k v f' m' [(Y,0)]=U r->aR E.P E.aQ w0 μ' φ' m' w'->cR E.P μ' φ' m' f' (cE E.fn.ntmps w0 a)->az E.P μ' φ' v y->(∀id,v.has id=Y->(m' id).isSome=Y)->K (a.put o.dst y) w')->o.wpIn (FR rd) 0 E.P a w K Q
section
variable {R:Type} {E:Env}
variable{w0:bI}{μ:Ro}{φ:Nat->aT}{f:Fr}{m:Mem}{a:Act}{w:World}
def Rel.nS(h:Rel E.P E.aQ E.fn.ntmps w0 μ φ f m a w):cR E.P μ φ m f (cE E.fn.ntmps w0 a):=⟨h.fr,h.live⟩
variable{P:Program}{o:Oper}{K:Act->World->Prop}{Q:Exit->Act->World->Prop}
theorem iK{w':World}{y:Value}(hr:(execOp a.eval o).run P w=.ok (.value y) w')(h:K (a.put o.dst y) w'):o.wp P a w K Q:=by unfold Oper.wp;rw[hr];exact h
def GF{w':World}(hr:(execOp a.eval o).run P w=.ok .skip w')(h:K (a.put o.dst undef) w'):o.wp P a w K Q:=by unfold Oper.wp;rw[hr];exact h
variable{draw:Bool}{site:Nat}{v:V}
def ED.read{ft:bS}(nat:∀(f2:Fr)(m2:Mem),(∀x∈o.op.operands,cd E f2 x=cd E f x)->(∀x∈ft,m2 x.2=m x.2)->∀(R':Type)(k':V->Fr->Mem->bS->Option R'),cT E Y site o f2 m2 k'=k' v f2 m2 ft)(hs:∀(w0:bI)(μ:Ro)(φ:Nat->aT)(a:Act)(w:World),Rel E.P E.aQ E.fn.ntmps w0 μ φ f m a w->∃y,(execOp a.eval o).run E.P w=.ok (.value y) w/\az E.P μ φ v y/\∀id,v.has id=Y->(m id).isSome=Y):ED E draw site o f m v f m ft:=by refine⟨λ_=>⟨rfl,[],rfl,ae,nat⟩,λ_ _=>⟨rfl,rfl⟩,λw0 μ φ a w K Q hR hK=>?_⟩;have⟨y,hr,hy,hl⟩:=hs w0 μ φ a w hR;exact iK hr (hK y w μ φ hR.toaR hR.nS hy hl)
variable{m':Mem}
def ED.make{f':Fr}{b:cS}(hd:draw=Y->m site=Z/\f'=f/\m'=aO m site b)(nat:draw=Y->∀(f2:Fr)(m2:Mem),(∀x∈o.op.operands,cd E f2 x=cd E f x)->m2 site=Z->∀(R':Type)(k':V->Fr->Mem->bS->Option R'),cT E Y site o f2 m2 k'=k' v f2 (aO m2 site b) [(Y,site)])(hs:∀(w0:bI)(μ:Ro)(φ:Nat->aT)(a:Act)(w:World),Rel E.P E.aQ E.fn.ntmps w0 μ φ f m a w->∃y w' μ' φ',(execOp a.eval o).run E.P w=.ok (.value y) w'/\aR E.P E.aQ w0 μ' φ' m' w'/\cR E.P μ' φ' m' f' (cE E.fn.ntmps w0 a)/\az E.P μ' φ' v y/\∀id,v.has id=Y->(m' id).isSome=Y):ED E draw site o f m v f' m' [(Y,site)]:=by
 refine⟨λh=>?_,λ_ h=>av,λw0 μ φ a w K Q hR hK=>?_⟩
 .obtain⟨h1,h2,h3⟩:=hd h;exact⟨h2,[(site,b)],h3,ae,λf2 m2 hf hm R' k'=>nat h f2 m2 hf av R' k'⟩
 grind [iK]
variable{args:Array Operand}
def pP(h:Rel E.P E.aQ E.fn.ntmps w0 μ φ f m a w):(args.toList.map (cd E f)).length=(args.map a.eval).size/\∀(i:Nat)v x,(args.toList.map (cd E f))[i]?=U v->(args.map a.eval)[i]?=U x->az E.P μ φ v x:=by refine⟨ae,λi v x hv hx=>?_⟩;simp only[AT,asI]at hv;obtain⟨o,ho,rfl⟩:=hv;grind [Option.some.injEq,aL]
def zH(h:Rel E.P E.aQ E.fn.ntmps w0 μ φ f m a w){args:List Operand}{id:Nat}(hid:cX id (args.map (cd E f))=Y):(m id).isSome=true:=by have⟨v,hv,hh⟩:=dF.1 hid;obtain⟨o,_,rfl⟩:=ayl.1 hv;exact(aL h o).2 id hh
theorem vT{f2:Fr}{l:List Operand}(h:∀x∈l,cd E f2 x=cd E f x):l.map (cd E f2)=l.map (cd E f):=ayE h
def BR{f2:Fr}{l:List (Nat×Operand)}(h:∀x∈l,cd E f2 x.2=cd E f x.2):(l.map λ(x:Nat×Operand)=>(x.1,cd E f2 x.2))=l.map λ(x:Nat×Operand)=>(x.1,cd E f x.2):=ayE λx hx=>by rw[h x hx]
variable{g:FuncId}
def Iw{fn:Func}{c:Code}(hf:P.funcs[g]?=U fn)(amP:(fn.name== "runtime.NumGoroutine")=J)(hb:fn.body=U c){args:Array Value}:(callFunc g args).run P w=.ok (.enter g args) w:=by simp_all[callFunc]
theorem Af{b:Bool}{x:Value}(h:az P μ φ (.pv (.bool b)) x):x=.bool b:=by cases h with|pv h=>cases h;rfl
def aho{p:PV}(h:Ph dW v=U (p,m'))(m:Mem):Ph m v=U (p,m):=by unfold Ph at h⊢;grind [Option.some.injEq,Prod.mk.injEq,dW]
def Mt:∀{cs:List V}{ps:List PV}{m':Mem},rT dW cs=U (ps,m')->∀m:Mem,rT m cs=U (ps,m)
 |[],ps,m',h,m=>by simp only[rT,tc,aq4]at h;rw[<-h.1];rfl
 |c::r,ps,m',h,m=>by
  simp only[rT]at h;split at h
  .rename_i p m1 h1;have e1:=zY h1;subst e1;split at h
   next ps1 m2 h2=>simp only[tc,aq4]at h;simp only[rT,aho h1 m,Mt h2 m,h.1]
   .cases h
  .cases h
def NW:∀{cs:List V}{ps:List PV}{m':Mem},rT dW cs=U (ps,m')->m'=dW
 |[],ps,m',h=>by simp_all[rT,tc,aq4]
 |c::r,ps,m',h=>by
  simp only[rT]at h;split at h
  .rename_i p m1 h1;have e1:=zY h1;subst e1;split at h
   next ps1 m2 h2=>simp only[tc,aq4]at h;rw[<-h.2];exact NW h2
   .cases h
  .cases h
def XC{n:Nat}{agg:Bool}{p:PV}(h:oq dW n agg v=U (p,m')):m'=dW/\∀m:Mem,oq m n agg v=U (p,m):=by
 unfold oq at h;split at h
 .rename_i cs hc;split at h
  .rename_i ps m1 h1;have e1:=NW h1;subst e1;cases agg with
   |true=>simp only[By,tc,aq4]at h;refine⟨h.2.symm,λm=>?_⟩;unfold oq;simp only[hc,Mt h1 m,By,h.1]
   |false=>
    simp only[AI,OF]at h;split at h
    .simp only[tc,aq4]at h;refine⟨h.2.symm,λm=>?_⟩;unfold oq;simp only[hc,Mt h1 m,AI,OF,h.1]
    .cases h
  .cases h
 .cases h
def Ag{n:Nat}{agg:Bool}:∀{parts:List (Nat×V)}{i:Nat}{ps:List PV}{m':Mem},gS dW n agg i parts=U (ps,m')->m'=dW/\∀m:Mem,gS m n agg i parts=U (ps,m)
 |[],i,ps,m',h=>by simp_all[gS,tc,aq4]
 |(j,v)::r,i,ps,m',h=>by
  simp only[gS]at h;split at h
  .rename_i hij;split at h
   .rename_i p m1 h1;have⟨e1,e2⟩:=XC h1;subst e1;split at h
    next ps1 m2 h2=>have⟨e3,e4⟩:=Ag h2;simp_all[tc,aq4,gS,BY]
    .cases h
   .cases h
  .cases h
def KW(g:FuncId)(xs ys:Array Value):Array Value:=bif Nat.blt g Pg then ys++xs else xs++ys
def acY{caps args:List V}{xs ys:Array Value}(e1:args.length=ys.size)(h1:∀(i:Nat)v x,args[i]?=U v->ys[i]?=U x->az P μ φ v x)(e2:caps.length=xs.size)(h2:∀(i:Nat)v x,caps[i]?=U v->xs[i]?=U x->az P μ φ v x):(Jz g caps args).length=(KW g xs ys).size/\∀(i:Nat)v x,(Jz g caps args)[i]?=U v->(KW g xs ys)[i]?=U x->az P μ φ v x:=by unfold Jz KW;grind
def ahp{caps args:List V}(h:v∈Jz g caps args):v∈args\/v∈caps:=by unfold Jz at h;grind
def ahq(g:FuncId)(xs:Array Value):KM (g+Pg) xs=.func (.func g) xs #[]:=by simp[KM,IT,Nat.le_add_left,azs]
def EE{site:Nat}:∀{ts:List TypeId}{j:Nat}{F:Fr}{m:Mem}{k:Fr->Mem->Option R}{r:R},Ig E site ts j F m k=U r->∃F' m',k F' m'=U r/\∀(G:Nat->Option (List PV))(w0:bI)(μ:Ro)(φ:Nat->aT)(w:World)(ρ:Nat->Value),aR E.P G w0 μ φ m w->cR E.P μ φ m F ρ->∃φ',aR E.P G w0 μ φ' m' w/\cR E.P μ φ' m' F' ρ
 |[],j,F,m,k,r,h=>⟨F,m,h,λG w0 μ φ w ρ hM hF=>⟨φ,hM,hF⟩⟩
 |t::ts,j,F,m,k,r,h=>by
  simp only[Ig]at h;split at h
  .rename_i hj;split at h
   .rename_i e hu;split at h
    .rename_i fa;have⟨f1,m1,hn,hk,Gj,Gk,Et⟩:=cU h;have⟨F',m',c1,c2⟩:=EE hk;refine⟨F',m',c1,λG w0 μ φ w ρ hM hF=>?_⟩;obtain⟨φ',a1,a2,a3⟩:=Et E.P G w0 μ φ w w ρ (NI Z 0 0 (bq E.P e)) hM hF ⟨ou.refl _ _,hM.ro,λ_ _ _ _ _=>rfl,ae,λφ' hp _=>by refine⟨by rw[hp];rfl,by rw[hp],rfl,fa,ae,by rw[hp];simp[maxLen],?_⟩;simp_all,gu,λg o h=>⟨(hM.hid g o h).1,ae⟩,λst h=>by cases h⟩;have hv:ρ j=.slice Z 0 0:=by have:=hF.fr j;rw[hj]at this;generalize ρ j=y at this;cases this;rfl
     refine c2 G w0 μ φ' w ρ a2 ⟨λs=>?_,λs id hid=>?_⟩
     .by_cases e:s=j
      .subst e;rw[show jC f1 s (.os (Dt site s)) s=.os (Dt site s) by simp_all,hv];exact .BG (by rw[a1])
      .rw[zV e];exact a3.fr s
     .by_cases e:s=j
      .subst e;rw[show jC f1 s (.os (Dt site s)) s=.os (Dt site s) by simp_all]at hid;have hid:=T0 hid;subst hid;simp[Gj]
      .rw[zV e]at hid;exact a3.live s id hid
    .cases h
   .cases h
  .exact EE h
variable{k:V->Fr->Mem->bS->Option R}{r:R}
def akW(hE:mn E)(h:cT E draw site o f m k=U r)(hc:∀c,o.op≠.call c)(hb:∀op t x y ty s es,o.op=.binOp op t x y ty->cd E f x=.pv (.rs s es)->cd E f y≠.il)(hit:aaf o.op=J):∃v f' m' ft,k v f' m' ft=U r/\ED E draw site o f m v f' m' ft:=by
 obtain⟨dst,op,type,pos,after,guard⟩:=o;unfold cT at h;cases op<;>simp only at h;case move x=>refine⟨_,_,_,_,h,.read (λf2 m2 hf _ R' k'=>by simp only[cT];rw[hf x cC]) λw0 μ φ a w hR=>⟨_,rfl,(aL hR x).1,(aL hR x).2⟩⟩
 case pick c x y=>
  split at h
  .rename_i t hc;cases t with
   |true=>simp only[By]at h;refine⟨_,_,_,_,h,.read (λf2 m2 hf _ R' k'=>by simp only[cT];rw[hf c cC,hf x cC,hc];simp) λw0 μ φ a w hR=>?_⟩;have h1:=(aL hR c).1;rw[hc]at h1;exact⟨a.eval x,by simp[execOp,Go.asBool,Af h1],(aL hR x).1,(aL hR x).2⟩
   |false=>simp only[AI,OF]at h;refine⟨_,_,_,_,h,.read (λf2 m2 hf _ R' k'=>by simp only[cT];rw[hf c cC,hf y cC,hc];simp) λw0 μ φ a w hR=>?_⟩;have h1:=(aL hR c).1;rw[hc]at h1;exact⟨a.eval y,by simp[execOp,Go.asBool,Af h1],(aL hR y).1,(aL hR y).2⟩
  .cases h
 case assign x=>
  have mk:∀{v},cd E f x=v->(v=.il->∀e,E.P.underlying type≠U (.slice e))->k v f m []=U r->∃v f' m' ft,k v f' m' ft=U r/\ED E draw site {dst,op:=.assign x,type,pos,after,guard} f m v f' m' ft:=by
   intro v hv cO hk;refine⟨v,f,m,[],hk,.read (λf2 m2 hf _ R' k'=>?_) λw0 μ φ a w hR=>⟨_,rfl,hv▸(aL hR x).1,hv▸(aL hR x).2⟩⟩;simp only[cT];rw[hf x cC,hv];cases v<;>try rfl
   simp only;split
   next e hu=>exact absurd hu (cO rfl e)
   .rfl
  split at h
  .rename_i hx;split at h
   .rename_i e hu;split at h
    .rename_i fa;have⟨f',m',hn,hk,Gj,Gk,Et⟩:=cU h;refine⟨_,_,_,_,hk,.make Gk (λ_ f2 m2 hf hs R' k'=>?_) λw0 μ φ a w hR=>?_⟩
     .simp only[cT];rw[hf x cC,hx];simp only[hu,fa,By,fresh,hs]
     .have h1:=(aL hR x).1;rw[hx]at h1;obtain⟨φ',a1,a2,a3⟩:=Et E.P E.aQ w0 μ φ w w _ (NI Z 0 0 (bq E.P e)) hR.toaR hR.nS ⟨ou.refl _ _,hR.ro,λ_ _ _ _ _=>rfl,ae,λφ' hp _=>by refine⟨by rw[hp];rfl,by rw[hp],rfl,fa,ae,by rw[hp];simp[maxLen],?_⟩;rw[hp];exact⟨rfl,rfl⟩,gu,λg o h=>⟨(hR.hid g o h).1,ae⟩,λst h=>by cases h⟩;refine⟨.slice Z 0 0,w,μ,φ',?_,a2,a3,.BG (by rw[a1]),λid hid=>?_⟩
      .simp only[execOp,Sem.run_pure];generalize a.eval x=y at h1;cases h1;rfl
      .have hid:=T0 hid;subst hid;simp[Gj]
    .cases h
   next hu=>exact mk hx (λ_ e he=>hu e he) h
  next hx=>exact mk rfl (λhe=>absurd he hx) h
 case alloc t=>
  split at h
  .rename_i cs hz;have⟨i,zv,z1,z2,z3,z4,z5,z6,z7,z8⟩:=eA hz;cases Sq:E.Ma site with
   |true=>
    rw[Sq]at h;simp only[cond_true]at h;split at h
    .rename_i n e ps hu u9;split at h
     .rename_i Sb;obtain⟨ha,hl,fa,avS⟩:=Sb;have⟨f',m',hn,hk,Gj,Gk,Et⟩:=cU h;have⟨q1,q2⟩:=jE u9;have vR:(vj (bq E.P e) n (.agg ps)).length=n:=by simp[vj]
      refine⟨_,_,_,_,hk,.make Gk (λ_ f2 m2 hf hs R' k'=>by simp only[cT,hz,Sq,hu,u9,cond_true];rw[BY ⟨ha,hl,fa,avS⟩];simp only[fresh,hs]) λw0 μ φ a w hR=>?_⟩;have sD:aH E.P μ (.agg ps) (.agg zv.cells):=.agg aa (λi p x hp hx=>by have⟨v,hv,hpo⟩:=q2 i p hp;have:=z7 μ φ i v x hv hx;cases v<;>simp[vO]at hpo;subst hpo;cases this with|pv h=>exact h) z8;have hC:Cells E.P μ (bq E.P e) (vj (bq E.P e) n (.agg ps)) (zv.cells.toList.take ((vj (bq E.P e) n (.agg ps)).length*bq E.P e)):=by
       refine⟨by rw[vR];simp;omega,λi e' Z4=>?_,λi e' j p y hi hj hy=>?_,λi y hy=>z8 i y (by simpa using(kX hy).2)⟩
       .obtain⟨_,rfl⟩:=JK Z4;exact Cv
       .obtain⟨x',x1,x2,_⟩:=Tk (k:=i*bq E.P e+j) sD aa hi hj rfl;have:=(kX hy).2;rw[ayQ,x1]at this;cases this;exact x2
      obtain⟨φ',a1,a2,a3⟩:=Et E.P E.aQ w0 μ φ w _ _ (NI (U w.heap.size) n (vj (bq E.P e) n (.agg ps)).length (bq E.P e)) hR.toaR hR.nS (pk.alloc (o:=.cells zv.cells t) hR.toaR rfl (λφ' hp _=>ba.xc (g:=w.heap.size) (by rw[hp]) rfl fa (by rw[hp];simp only[maxLen,NI];omega) (iG w _) (by rw[hp];simp only[NI];omega) (by rw[hp,vR];exact ayd _) hC) gu);refine⟨.pointer (U ⟨w.heap.size,0,Z⟩),w.alloc (.cells zv.cells t),μ,φ',by simp[execOp,It z1 z2],a2,a3,?_,λid hid=>?_⟩
      .have:=az.oe (P:=E.P) (μ:=μ) (φ:=φ') (id:=site) (i:=0) (off:=0) (g:=w.heap.size) (by rw[a1]);simpa using this
      .have hid:=T0 hid;subst hid;simp[Gj]
     .cases h
    .cases h
   |false=>
   rw[Sq]at h;simp only[cond_false]at h;split at h
   .rename_i hdn;have hdf:draw=false:=by simp only[T1,ayx]at hdn;exact hdn.1
    have⟨F,m1,g1,g2⟩:=EE h;have⟨f',m',hn,hk,Gj,Gk,Et⟩:=cU g1;refine⟨_,_,_,_,hk,⟨λhd=>(by rw[hdf]at hd;cases hd),λ_ h=>(by have:=h (Y,site) ae;cases this),λw0 μ φ a w K Q hR hK=>?_⟩⟩;have x1:cs.length=zv.cells.size:=aa
    have x2:=z7 μ φ;have x3:=z8;have hF0:cR E.P μ φ m (FO cs.length cs f) (λt=>if t<cs.length then zv.cells.getD t undef else cE E.fn.ntmps w0 a (t-cs.length)):=by
     refine⟨λt=>?_,λt id hid=>?_⟩
     .unfold FO;by_cases ht:t<cs.length
      .rw[show Nat.blt t cs.length=Y by rw[azt];exact ht,BY ht];show az E.P μ φ (cs.getD t .top) _;have hx:t<zv.cells.size:=aa
       rw[show cs.getD t .top=cs[t] by simp[List.getD,ht],show zv.cells.getD t undef=zv.cells[t] by simp[Array.getD,hx]];exact x2 t _ _ (ta ht) (aq5 hx)
      .rw[show Nat.blt t cs.length=J by rw[<-ay1,azt];exact ht,IT ht];exact hR.nS.fr _
     .unfold FO at hid;cases e:Nat.blt t cs.length with
      |true=>
       rw[e]at hid;have ht:t<cs.length:=by rwa[azt]at e
       have hid:(cs.getD t .top).has id=true:=hid;rw[show cs.getD t .top=cs[t] by simp[List.getD,ht]]at hid;exact absurd (cq (alx ht) hid) (by rw[z6];simp)
      |false=>rw[e]at hid;exact hR.nS.live _ id hid
    obtain⟨φ1,EA,OO⟩:=g2 E.aQ w0 μ φ w _ hR.toaR hF0;have hF2:cR E.P μ φ1 m1 (Gp cs.length F) (cE E.fn.ntmps w0 a):=by refine⟨λt=>?_,λt id hid=>OO.live _ id hid⟩;have:=OO.fr (t+cs.length);rw[IT aa,azs]at this;exact this
    have St:∀(i:Nat)u y,((I cs.length).map F)[i]?=U u->zv.cells[i]?=U y->az E.P μ φ1 u y:=λi u y hu hy=>by
     have hi:i<cs.length:=by have:=(No.1 hu).1;simpa using this
     have zU:F i=u:=by simpa[hi]using hu
     have:=OO.fr i;rw[BY hi,zU,show zv.cells.getD i undef=y by simp[awW,hy]]at this;exact this
    obtain⟨φ',a1,a2,a3⟩:=Et E.P E.aQ w0 μ φ1 w _ _ _ EA hF2 (pk.box (T:=t) EA (c:=zv.cells) ah St x3 (λid hid=>by have⟨u,hu,hh⟩:=dF.1 hid;obtain⟨i,_,rfl⟩:=ayl.1 hu;exact OO.live i id hh));refine iK (y:=.pointer (U ⟨w.heap.size,0,Z⟩)) (w':=w.alloc (.cells zv.cells t)) (by simp[execOp,It z1 z2]) (hK _ _ μ φ' a2 a3 (.op (by rw[a1])) λid hid=>?_);have hid:=T0 hid;subst hid;simp[Gj]
   rename_i hdn;have h:fresh draw site (.box cs) f m (λf m ft=>k (.op site 0) f m ft)=U r:=h;have⟨f',m',hn,hk,Gj,Gk,Et⟩:=cU h;refine⟨_,_,_,_,hk,.make Gk (λ_ f2 m2 hf hs R' k'=>by simp only[cT,hz,Sq,cond_false,fresh,hs,aq3,azL,AI,OF]) λw0 μ φ a w hR=>?_⟩;obtain⟨φ',a1,a2,a3⟩:=Et E.P E.aQ w0 μ φ w _ _ _ hR.toaR hR.nS (pk.box (T:=t) hR.toaR (c:=zv.cells) aa (z7 μ φ) z8 (λid hid=>by rw[z6]at hid;cases hid));refine⟨.pointer (U ⟨w.heap.size,0,Z⟩),w.alloc (.cells zv.cells t),μ,φ',by simp[execOp,It z1 z2],a2,a3,.op (by rw[a1]),λid hid=>?_⟩;have hid:=T0 hid;subst hid;simp[Gj]
  .cases h
 case box t x=>
  split at h
  .rename_i cs hc;obtain⟨n1,n2,n3⟩:=toCells_ok hc;split at h
   .rename_i hdn;have hdf:draw=false:=by simp only[T1,ayx]at hdn;exact hdn.1
    split at h
    .rename_i ts hts;split at h
     .rename_i hlen;have⟨F,m1,g1,g2⟩:=EE h;have⟨f',m',hn,hk,Gj,Gk,Et⟩:=cU g1;refine⟨_,_,_,_,hk,⟨λhd=>(by rw[hdf]at hd;cases hd),λ_ h=>(by have:=h (Y,site) ae;cases this),λw0 μ φ a w K Q hR hK=>?_⟩⟩;have⟨h1,h2⟩:=aL hR x;obtain⟨x1,x2,x3⟩:=n3 _ _ _ _ h1;have hF0:cR E.P μ φ m (FO cs.length cs f) (λt=>if t<cs.length then(a.eval x).cells.getD t undef else cE E.fn.ntmps w0 a (t-cs.length)):=by
       refine⟨λt=>?_,λt id hid=>?_⟩
       .unfold FO;by_cases ht:t<cs.length
        .rw[show Nat.blt t cs.length=Y by rw[azt];exact ht,BY ht];show az E.P μ φ (cs.getD t .top) _;have hx:t<(a.eval x).cells.size:=aa
         rw[show cs.getD t .top=cs[t] by simp[List.getD,ht],show(a.eval x).cells.getD t undef=(a.eval x).cells[t] by simp[Array.getD,hx]];exact x2 t _ _ (ta ht) (aq5 hx)
        .rw[show Nat.blt t cs.length=J by rw[<-ay1,azt];exact ht,IT ht];exact hR.nS.fr _
       .unfold FO at hid;cases e:Nat.blt t cs.length with
        |true=>
         rw[e]at hid;have ht:t<cs.length:=by rwa[azt]at e
         have hid:(cs.getD t .top).has id=true:=hid;rw[show cs.getD t .top=cs[t] by simp[List.getD,ht]]at hid;exact h2 id (n2 id (cq (alx ht) hid))
        |false=>rw[e]at hid;exact hR.nS.live _ id hid
      obtain⟨φ1,EA,OO⟩:=g2 E.aQ w0 μ φ w _ hR.toaR hF0;have hF2:cR E.P μ φ1 m1 (Gp cs.length F) (cE E.fn.ntmps w0 a):=by refine⟨λt=>?_,λt id hid=>OO.live _ id hid⟩;have:=OO.fr (t+cs.length);rw[IT aa,azs]at this;exact this
      have St:∀(i:Nat)u y,((I cs.length).map F)[i]?=U u->(a.eval x).cells[i]?=U y->az E.P μ φ1 u y:=λi u y hu hy=>by
       have hi:i<cs.length:=by have:=(No.1 hu).1;simpa using this
       have zU:F i=u:=by simpa[hi]using hu
       have:=OO.fr i;rw[BY hi,zU,show(a.eval x).cells.getD i undef=y by simp[awW,hy]]at this;exact this
      obtain⟨φ',a1,a2,a3⟩:=Et E.P E.aQ w0 μ φ1 w _ _ _ EA hF2 (pk.box (T:=t) EA (c:=(a.eval x).cells) ah St x3 (λid hid=>by have⟨u,hu,hh⟩:=dF.1 hid;obtain⟨i,_,rfl⟩:=ayl.1 hu;exact OO.live i id hh));refine iK (y:=.pointer (U ⟨w.heap.size,0,Z⟩)) (w':=w.alloc (.cells (a.eval x).cells t)) (by simp[execOp,acR]) (hK _ _ μ φ' a2 a3 (.op (by rw[a1])) λid hid=>?_);have hid:=T0 hid;subst hid;simp[Gj]
     .cases h
    .cases h
   rename_i hdn;have h:fresh draw site (.box cs) f m (λf m ft=>k (.op site 0) f m ft)=U r:=h;have hdn:draw=Y->(!true&&cs.any agQ)=false:=λ_=>rfl;have⟨f',m',hn,hk,Gj,Gk,Et⟩:=cU h;refine⟨_,_,_,_,hk,.make Gk (λ_ f2 m2 hf hs R' k'=>by simp only[cT];rw[hf x cC];simp only[hc,fresh,hs,aq3,azL,AI,OF]) λw0 μ φ a w hR=>?_⟩;have⟨h1,h2⟩:=aL hR x;obtain⟨x1,x2,x3⟩:=n3 _ _ _ _ h1;obtain⟨φ',a1,a2,a3⟩:=Et E.P E.aQ w0 μ φ w _ _ _ hR.toaR hR.nS (pk.box (T:=t) hR.toaR (c:=(a.eval x).cells) aa x2 x3 (λid hid=>h2 id (n2 id hid)));refine⟨.pointer (U ⟨w.heap.size,0,Z⟩),w.alloc (.cells (a.eval x).cells t),μ,φ',by simp[execOp,acR],a2,a3,.op (by rw[a1]),λid hid=>?_⟩;have hid:=T0 hid;subst hid;simp[Gj]
  .cases h
 case build t parts=>have⟨v,v1,v2,v3,v4⟩:=aeC h;have hpc:∀f2:Fr,(∀x∈(Op.build t parts).operands,cd E f2 x=cd E f x)->(parts.toList.map λ(x:Nat×Operand)=>(x.1,cd E f2 x.2))=parts.toList.map λ(x:Nat×Operand)=>(x.1,cd E f x.2):=λf2 hf=>BR λx hx=>hf x.2 (by simp only[Op.operands,aAf,ayl];exact⟨x,hx,rfl⟩);refine⟨_,_,_,_,v2,.read (λf2 m2 hf _ R' k'=>by simp only[cT];rw[hpc f2 hf];exact v1 _ _) λw0 μ φ a w hR=>?_⟩;obtain⟨z,z1,z2⟩:=v4 μ φ w (parts.map λ(i,x)=>(i,a.eval x)) ae (λj i v hj=>by simp only[AT,asI]at hj;obtain⟨y,hy,he⟩:=hj;simp only[aq4]at he;obtain⟨rfl,rfl⟩:=he;refine⟨a.eval y.2,?_,(aL hR y.2).1⟩;rw[Array.getElem?_map,<-ayQ,hy];rfl);refine⟨z,by simp only[execOp,Sem.run_bind,z1,Result.andThen_ok,Sem.run_pure],z2,λid hid=>?_⟩;have h5:=v3 id hid;rw[azI]at h5;have⟨u,hu,hh⟩:=dF.1 h5;obtain⟨y,hy,rfl⟩:=ayl.1 hu;exact(aL hR y.2).2 id hh
 case load t x=>have⟨v,ft,v1,v2,v3,v4⟩:=Py h;refine⟨_,_,_,_,v2,.read (λf2 m2 hf hm R' k'=>by simp only[cT];rw[hf x cC];exact v1 m2 hm _ _) λw0 μ φ a w hR=>?_⟩;obtain⟨y,y1,y2,y3⟩:=v4 _ _ _ _ _ _ hR.toaR (aL hR x).1;exact⟨y,by simp[execOp,y1],y2,y3⟩
 case store t x y=>
  have⟨m',ft,k1,k2,k3,k4⟩:=aeA h;refine⟨_,_,_,_,k1,⟨λhd=>?_,λh _=>by(simp[gZ]at h),λw0 μ φ a w K Q hR hK=>?_⟩⟩
  .obtain⟨id,b,rfl,rfl,d3⟩:=k2 hd;refine⟨rfl,[(id,b)],rfl,ae,λf2 m2 hf hm R' k'=>?_⟩;simp only[cT];rw[hf x cC,hf y cC];exact d3 m2 (hm (Y,id) ae) _ _
  .obtain⟨w',μ',s1,s2,s3⟩:=k4 _ _ _ _ _ _ _ hR.toaR (aL hR x).1 (aL hR y).1 (aL hR y).2;exact GF (by simp[execOp,s1]) (hK undef w' μ' φ s3 (hR.nS.sL s2 k3) .top ae)
 case nilCheck x=>
  have key:∀{v},cd E f x=v->(∀(μ:Ro)(φ:Nat->aT)y,az E.P μ φ v y->(∃ad,y=.pointer (U ad))\/∃g xs ys,y=.func (.func g) xs ys)->k v f m []=U r->(∀(R':Type)(k':V->Fr->Mem->bS->Option R')(f2:Fr)(m2:Mem),cd E f2 x=v->cT E Y site {dst,op:=.nilCheck x,type,pos,after,guard} f2 m2 k'=k' v f2 m2 [])->∃v f' m' ft,k v f' m' ft=U r/\ED E draw site {dst,op:=.nilCheck x,type,pos,after,guard} f m v f' m' ft:=by
   intro v hv hp hk hn;refine⟨v,f,m,[],hk,.read (λf2 m2 hf _ R' k'=>hn R' k' f2 m2 (by rw[hf x cC,hv])) λw0 μ φ a w hR=>?_⟩;have⟨h1,h2⟩:=aL hR x;rw[hv]at h1 h2;refine⟨a.eval x,?_,h1,h2⟩;rcases hp μ φ _ h1 with⟨ad,e⟩|⟨g,xs,ys,e⟩
   .simp only[execOp,e];rfl
   .simp only[execOp,e];rfl
  split at h
  next cs hx=>exact key hx (λμ φ y hy=>by cases hy with|pv hy=>cases hy;exact .inl ⟨_,rfl⟩) h λR' k' f2 m2 e=>by simp only[cT,e]
  next id off hx=>exact key hx (λμ φ y hy=>by cases hy;exact .inl ⟨_,rfl⟩) h λR' k' f2 m2 e=>by simp only[cT,e]
  next id i off hx=>exact key hx (λμ φ y hy=>by cases hy;exact .inl ⟨_,rfl⟩) h λR' k' f2 m2 e=>by simp only[cT,e]
  next id i off s j off2 hx=>exact key hx (λμ φ y hy=>by cases hy;exact .inl ⟨_,rfl⟩) h λR' k' f2 m2 e=>by simp only[cT,e]
  next g cs hx=>exact key hx (λμ φ y hy=>by cases hy;exact .inr (sI _ _)) h λR' k' f2 m2 e=>by simp only[cT,e]
  next g cs hx=>exact key hx (λμ φ y hy=>by cases hy with|pv hy=>cases hy;exact .inr (sI _ _)) h λR' k' f2 m2 e=>by simp only[cT,e]
  .cases h
 case binOp op t x y ty=>
  have Dy:∀(f2:Fr)(m2:Mem)(R':Type)(k':V->Fr->Mem->bS->Option R')(d:Bool),cd E f2 x=cd E f x->cd E f2 y=cd E f y->cT E d site ⟨dst,.binOp op t x y ty,type,pos,after,guard⟩ f2 m2 k'=Xb E op t y (cd E f x) (cd E f y) λp=>k' (.pv p) f2 m2 []:=by
   intro f2 m2 R' k' d e1 e2;simp only[cT];rw[e1,e2];split
   next s es h1 h2=>exact absurd h2 (hb op t x y ty s es rfl h1)
   .rfl
  have h:cT E draw site ⟨dst,.binOp op t x y ty,type,pos,after,guard⟩ f m k=U r:=by simp only[cT];exact h
  rw[Dy f m R k draw rfl rfl]at h;have⟨q,q1,q2,q3⟩:=ahn h;refine⟨_,_,_,_,q2,.read (λf2 m2 hf hm R' k'=>by rw[Dy f2 m2 R' k' Y (hf x cC) (hf y cC)];exact q1 _ _) λw0 μ φ a w hR=>?_⟩;obtain⟨z,z1,z2⟩:=q3 μ φ w x _ _ (λhn=>by
   unfold Pj at hn;split at hn
   .rfl
   .cases hn) (aL hR x).1 (aL hR y).1
  exact⟨z,by simp only[Cs]at z1;simp only[execOp,Sem.run_bind,Sem.run_pure]at z1⊢;rw[z1];rfl,.pv z2,ae⟩
 case unOp op t x=>have⟨q,q1,q2,q3⟩:=anK h;refine⟨_,_,_,_,q2,.read (λf2 m2 hf hm R' k'=>by simp only[cT];rw[hf x cC];exact q1 _ _) λw0 μ φ a w hR=>?_⟩;obtain⟨z,z1,z2⟩:=q3 E.P μ φ w _ (aL hR x).1;exact⟨z,by simp[execOp,z1],.pv z2,ae⟩
 case convert s d x=>have⟨q,ft,q1,q2,_,q3⟩:=aeN h;refine⟨_,_,_,_,q2,.read (λf2 m2 hf hm R' k'=>by simp only[cT];rw[hf x cC];exact q1 m2 hm _ _) λw0 μ φ a w hR=>?_⟩;obtain⟨z,z1,z2⟩:=q3 _ _ μ φ w _ hR.toaR (aL hR x).1;exact⟨z,by simp[execOp,z1],.pv z2,ae⟩
 case fieldAddr s x j=>have⟨v,v1,v2,v3,v4⟩:=Jc h;refine⟨_,_,_,_,v2,.read (λf2 m2 hf hm R' k'=>by simp only[cT];rw[hf x cC];exact v1 _ _) λw0 μ φ a w hR=>?_⟩;obtain⟨z,z1,z2⟩:=v4 μ φ w _ (aL hR x).1;exact⟨z,by simp[execOp,z1],z2,λid hid=>(aL hR x).2 id (by rw[<-v3];exact hid)⟩
 case field s x j=>have⟨v,v1,v2,v3,v4⟩:=aeu h;refine⟨_,_,_,_,v2,.read (λf2 m2 hf hm R' k'=>by simp only[cT];rw[hf x cC];exact v1 _ _) λw0 μ φ a w hR=>?_⟩;obtain⟨z,z1,z2⟩:=v4 μ φ w _ (aL hR x).1;exact⟨z,by simp[execOp,z1],z2,λid hid=>(aL hR x).2 id (v3 id hid)⟩
 case indexAddr t x ix=>have⟨v,ft,v1,v2,v3,v4,v5⟩:=Sl h;refine⟨_,_,_,_,v2,.read (λf2 m2 hf hm R' k'=>by simp only[cT];rw[hf x cC,hf ix cC];exact v1 m2 hm _ _) λw0 μ φ a w hR=>?_⟩;obtain⟨z,z1,z2⟩:=v5 _ _ μ φ w _ _ hR.toaR (aL hR x).1 (aL hR ix).1;exact⟨z,by simp[execOp,z1],z2,λid hid=>(aL hR x).2 id (v4 id hid)⟩
 case index t x ix=>have⟨v,v1,v2,v3,v4⟩:=aev h;refine⟨_,_,_,_,v2,.read (λf2 m2 hf hm R' k'=>by simp only[cT];rw[hf x cC,hf ix cC];exact v1 _ _) λw0 μ φ a w hR=>?_⟩;obtain⟨z,z1,z2⟩:=v4 μ φ w _ _ (aL hR x).1 (aL hR ix).1;exact⟨z,by simp[execOp,z1],z2,λid hid=>(aL hR x).2 id (v3 id hid)⟩
 case lookup t x ix ok=>
  split at h
  .rename_i hn;have gW:ok=false:=by cases ok<;>simp at hn⊢
   subst gW;obtain⟨id,b1,b2,m',rfl,hk,hs,yO,WZ,hid,aap,anU⟩:=ahg h;refine⟨_,_,_,_,hk,⟨λhd=>⟨rfl,[(id,b1),(site,b2)],rfl,ae,λf2 m2 hf hm R' k'=>?_⟩,λ_ h=>absurd (h (Y,id) ae) ae,λw0 μ φ a w K Q hR hK=>?_⟩⟩
   .simp only[cT];rw[BY hn,hf x cC,hf ix cC];exact aap m2 (hm (Y,id) ae) (by rw[hm (Y,site) ae];exact hs) _ _
   .obtain⟨u,φ',u1,u2,u3,u4⟩:=anU _ _ _ _ _ _ _ _ _ hR.toaR hR.nS (aL hR x).1 (aL hR ix).1;exact iK (y:=u) (w':=w) (by simp[execOp,u1]) (hK u w μ φ' u2 u3 u4 λj hj=>by have hj:=T0 hj;subst hj;simp[BN])
  rename_i hn;have⟨v,ft,v1,v2,v3,v4,v5⟩:=aas h;refine⟨_,_,_,_,v2,.read (λf2 m2 hf hm R' k'=>by simp only[cT];rw[IT hn,hf x cC,hf ix cC];exact v1 m2 hm _ _) λw0 μ φ a w hR=>?_⟩;obtain⟨z,z1,z2⟩:=v5 _ _ μ φ w _ _ hR.toaR (aL hR x).1 (aL hR ix).1;exact⟨z,by simp[execOp,z1],z2,λid hid=>by rw[v4]at hid;cases hid⟩
 case mapUpdate t x key val=>
  have⟨m',ft,k1,k2,k3,k4⟩:=Ji h;refine⟨_,_,_,_,k1,⟨λhd=>?_,λh _=>by(simp[gZ]at h),λw0 μ φ a w K Q hR hK=>?_⟩⟩
  .obtain⟨id,b,rfl,rfl,d3⟩:=k2 hd;refine⟨rfl,[(id,b)],rfl,ae,λf2 m2 hf hm R' k'=>?_⟩;simp only[cT];rw[hf x cC,hf key cC,hf val cC];exact d3 m2 (hm (Y,id) ae) _ _
  .obtain⟨w',μ',s1,s2,s3⟩:=k4 _ _ _ _ _ _ _ _ hR.toaR (aL hR x).1 (aL hR key).1 (aL hR val).1;exact GF (by simp[execOp,s1]) (hK undef w' μ' φ s3 (hR.nS.sL s2 k3) .top ae)
 case insert t x key val=>
  have⟨m',ft,k1,k2,k3,k4⟩:=Ji h;refine⟨_,_,_,_,k1,⟨λhd=>?_,λh _=>by(simp[gZ]at h),λw0 μ φ a w K Q hR hK=>?_⟩⟩
  .obtain⟨id,b,rfl,rfl,d3⟩:=k2 hd;refine⟨rfl,[(id,b)],rfl,ae,λf2 m2 hf hm R' k'=>?_⟩;simp only[cT];rw[hf x cC,hf key cC,hf val cC];exact d3 m2 (hm (Y,id) ae) _ _
  .obtain⟨w',μ',s1,s2,s3⟩:=k4 _ _ _ _ _ _ _ _ hR.toaR (aL hR x).1 (aL hR key).1 (aL hR val).1;exact GF (by simp[execOp,s1]) (hK undef w' μ' φ s3 (hR.nS.sL s2 k3) .top ae)
 case extract t i=>
  split at h
  .rename_i vs hx;split at h
   .rename_i v hv;refine⟨_,_,_,_,h,.read (λf2 m2 hf hm R' k'=>by simp only[cT];rw[hf t cC,hx];simp only[hv]) λw0 μ φ a w hR=>?_⟩;have⟨h1,h2⟩:=aL hR t;rw[hx]at h1 h2;generalize hy:a.eval t=y at h1;cases h1 with
    | @b8 _ xs t1 t2=>
     have bX:i<xs.size:=by have:=(No.1 hv).1;omega
     refine⟨xs[i],by simp[execOp,hy,Instr.extract,bX],t2 i v _ hv (aq5 bX),λid hid=>h2 id (by simp only[V.has];exact cq (awU hv) hid)⟩
   .cases h
  .cases h
 case makeSlice t l c=>
  have⟨f',m',b,hd,hk,Gj,hs⟩:=Sr h;refine⟨_,_,_,_,hk,.make (λGk=>⟨(hd Gk).1,(hd Gk).2.1,(hd Gk).2.2.1⟩) (λGk f2 m2 hf hs' R' k'=>?_) λw0 μ φ a w hR=>?_⟩
  .simp only[cT];rw[hf l cC,hf c cC];exact(hd Gk).2.2.2 f2 m2 hs' _ _
  .obtain⟨w',y,φ',r1,r2,r3,r4⟩:=hs _ w0 μ φ w (cE E.fn.ntmps w0 a) _ _ hR.toaR hR.nS (aL hR l).1 (aL hR c).1;refine⟨y,w',μ,φ',by simp[execOp,r1],r2,r3,r4,λid hid=>?_⟩;have hid:=T0 hid;subst hid;exact Gj
 case makeMap t hint=>
  split at h
  .rename_i hh;split at h
   .rename_i kt et hu;split at h
    .rename_i hk;have⟨ks,hks⟩:=aym.1 hk;have aap:∀f2:Fr,(∀x∈(Op.makeMap t hint).operands,cd E f2 x=cd E f x)->UO E f2 hint=true:=λf2 hf=>by
      cases hint with
      |none=>rfl
      |some x=>simp only[UO]at hh⊢;rw[hf x cC];exact hh
     have mk:∀b:cS,(∀i off,b.rowAt i off=Y->False)->(∀(μ:Ro)(φ':Nat->aT)(w:World),(φ' site).g=U w.heap.size->jF E.P μ φ' (w.alloc (.map #[] 0)) site b)->(∀id,b.names id=J)->(∀st,b≠.loop st)->fresh draw site b f m (λf m ft=>k (.om site) f m ft)=U r->(∀(f2:Fr)(m2:Mem),(∀x∈(Op.makeMap t hint).operands,cd E f2 x=cd E f x)->m2 site=Z->∀(R':Type)(k':V->Fr->Mem->bS->Option R'),cT E Y site ⟨dst,.makeMap t hint,type,pos,after,guard⟩ f2 m2 k'=k' (.om site) f2 (aO m2 site b) [(Y,site)])->∃v f' m' ft,k v f' m' ft=U r/\ED E draw site ⟨dst,.makeMap t hint,type,pos,after,guard⟩ f m v f' m' ft:=by
      intro b Ti nI hnm hlp h hnt;have⟨f',m',hn,mq,Gj,Gk,Et⟩:=cU h Ti;refine⟨_,_,_,_,mq,.make Gk (λ_ f2 m2 hf hs R' k'=>hnt f2 m2 hf hs R' k') λw0 μ φ a w hR=>?_⟩;obtain⟨φ',a1,a2,a3⟩:=Et E.P E.aQ w0 μ φ w _ _ (NI (U w.heap.size) 0 0 0) hR.toaR hR.nS (pk.alloc (o:=.map #[] 0) hR.toaR rfl (λφ' hp _=>nI _ _ _ (by rw[hp])) (λid hid=>by rw[hnm]at hid;cases hid) (λst h=>absurd h (hlp st)));have xM:(Instr.makeMap t (hint.map a.eval)).run E.P w=.ok (.map (U w.heap.size)) (w.alloc (.map #[] 0)):=by
       cases hint with
       |none=>rfl
       |some x=>
        have h1:=(aL hR x).1;simp only[UO]at hh;split at hh
        .rename_i q n hx;rw[hx]at h1;generalize hy:a.eval x=y at h1;cases h1 with
         |pv h1=>cases h1;simp[Instr.makeMap,hy,run_underlying hu,Go.asInt,asIntOf,newObj];rfl
        .cases hh
      refine⟨.map (U w.heap.size),w.alloc (.map #[] 0),μ,φ',by simp only[execOp,Sem.run_bind,xM];rfl,a2,a3,.om (by rw[a1]),λid hid=>?_⟩;have hid:=T0 hid;subst hid;simp[Gj]
     split at h
     .rename_i anV;split at h
      next e hue=>exact mk (.gY kt e []) (λi off h=>by cases off<;>simp[cS.rowAt]at h) (λμ φ' w hg=>⟨w.heap.size,#[],0,ks,hg,iG w _,rfl,hks,ae,λi e h=>by simp at h,ae⟩) (λ_=>rfl) (λst h=>by cases h) h λf2 m2 hf hs R' k'=>by simp only[cT,aap f2 hf,hu,hk,fresh,hs,By,anV,hue]
      .cases h
     next anV=>exact mk (.map kt []) (λi off h=>by simp[cS.rowAt]at h) (λμ φ' w hg=>Xv hks hg) (λ_=>rfl) (λst h=>by cases h) h λf2 m2 hf hs R' k'=>by simp only[cT,aap f2 hf,hu,hk,fresh,hs,By];rw[IT anV]
    .cases h
   .cases h
  .cases h
 case makeFunc fn first caps=>
  cases fn<;>simp only at h;case func g=>
   cases Z3:Nat.blt g Pg with
   |false=>rw[Z3]at h;cases h
   |true=>
   rw[Z3]at h;simp only[cond_true]at h;split at h
   .rename_i ahr;have hf0:first= #[]:=by simpa using ahr
    subst hf0;refine⟨_,_,_,_,h,.read (λf2 m2 hf hm R' k'=>?_) λw0 μ φ a w hR=>⟨.func (.func g) #[] (caps.map a.eval),by simp[execOp,Instr.makeFunc],by rw[<-zS Z3];exact .fn (pP hR).1 (pP hR).2,λid hid=>zH hR (by simpa only[V.has]using hid)⟩⟩;simp only[cT,Z3,cond_true];rw[BY ae,vT λx hx=>hf x (by simpa[Op.operands]using hx)]
   .rename_i ahr;split at h
    .rename_i hcp;have hc0:caps= #[]:=by simpa using hcp
     subst hc0;refine⟨_,_,_,_,h,.read (λf2 m2 hf hm R' k'=>?_) λw0 μ φ a w hR=>⟨.func (.func g) (first.map a.eval) #[],by simp[execOp,Instr.makeFunc],by rw[<-ahq];exact .fn (pP hR).1 (pP hR).2,λid hid=>zH hR (by simpa only[V.has]using hid)⟩⟩;simp only[cT,Z3,cond_true];rw[IT ahr,BY ae,vT λx hx=>hf x (by simpa[Op.operands]using hx)]
    .cases h
  all_goals (cases h)
 case slice t x lo hi mx=>
  have⟨v,ft,v1,v2,v3,v4,v6⟩:=aew h;have hlo:∀f2:Fr,(∀y∈(Op.slice t x lo hi mx).operands,cd E f2 y=cd E f y)->lo.map (cd E f2)=lo.map (cd E f)/\hi.map (cd E f2)=hi.map (cd E f)/\mx.map (cd E f2)=mx.map (cd E f):=λf2 hf=>by
   refine⟨?_,?_,?_⟩
   .cases lo with
    |none=>rfl
    |some y=>simp only[IN];rw[hf y cC]
   .cases hi with
    |none=>rfl
    |some y=>simp only[IN];rw[hf y cC]
   .cases mx with
    |none=>rfl
    |some y=>simp only[IN];rw[hf y cC]
  refine⟨_,_,_,_,v2,.read (λf2 m2 hf hm R' k'=>by simp only[cT];rw[hf x cC,(hlo f2 hf).1,(hlo f2 hf).2.1,(hlo f2 hf).2.2];exact v1 m2 hm _ _) λw0 μ φ a w hR=>?_⟩;obtain⟨z,z1,z2⟩:=v6 _ _ μ φ w (a.eval x) (lo.map a.eval) (hi.map a.eval) (mx.map a.eval) hR.toaR (aL hR x).1 (λv hv=>by
   obtain⟨y,rfl,rfl⟩:=asI.1 hv;exact⟨_,rfl,(aL hR y).1⟩) (λhv=>by cases lo<;>simp at hv⊢) (λv hv=>by
   obtain⟨y,rfl,rfl⟩:=asI.1 hv;exact⟨_,rfl,(aL hR y).1⟩) (λhv=>by cases hi<;>simp at hv⊢) (λv hv=>by
   obtain⟨y,rfl,rfl⟩:=asI.1 hv;exact⟨_,rfl,(aL hR y).1⟩) (λhv=>by cases mx<;>simp at hv⊢)
  exact⟨z,by simp[execOp,z1],z2,λid hid=>(aL hR x).2 id (v4 id hid)⟩
 case buildSlice t len parts=>
  split at h
  .rename_i e hu;split at h
   .rename_i hfn;split at h
    .rename_i cs sD;split at h
     .rename_i hc;obtain⟨hlen,Dy,Mr,hzs⟩:=hc;have⟨zc,hzc⟩:=aym.1 hzs;have⟨iz,zv,z1,z2,z3,_⟩:=eA hzc;have⟨p1,p2,p3⟩:=Tp sD;have⟨f',m',hn,hk,Gj,Gk,Et⟩:=cU h;refine⟨_,_,_,_,hk,.make (b:=.box cs) Gk (λ_ f2 m2 hf hs R' k'=>by have hpc:(parts.toList.map λ(x:Nat×Operand)=>(x.1,cd E f2 x.2))=parts.toList.map λ(x:Nat×Operand)=>(x.1,cd E f x.2):=BR λx hx=>hf x.2 (by simp only[Op.operands,aAf,ayl];exact⟨x,hx,rfl⟩);simp only[cT,hu,hfn,By];rw[hpc];simp only[sD];rw[BY ⟨hlen,Dy,Mr,hzs⟩];simp only[fresh,hs]) λw0 μ φ a w hR=>?_⟩;have P6:parts.toList.length=len:=by rw[<-hlen];simp
      have vR:cs.length=len:=by rw[p1];simp[<-P6]
      have XD:∃c0:Array Value,c0.size=0+parts.toList.length/\∀cells,Instr.fill (λi=>U (i*1,1)) c0 (parts.map λ(i,x)=>(i,a.eval x)).toList=U cells->(Instr.buildSlice t len (parts.map λ(i,x)=>(i,a.eval x))).run E.P w=.ok (.slice (U ⟨w.heap.size,0,Z⟩) len len) (w.alloc (.cells cells e)):=by
       by_cases h0:len*bq E.P e=0
       .have W0:len=0:=by rw[Dy]at h0;omega
        refine⟨#[],by simp[P6,W0],λcells hf=>?_⟩;subst W0;have Ta:parts= #[]:=by apply azT;simpa using ayh P6
        subst Ta;have hf':cells= #[]:=by simpa[Instr.fill]using hf.symm
        subst hf';simp[Instr.buildSlice,run_underlying hu,sizeOf,typeInfo,z1,newRow,Instr.fill,Array.range_zero']
       .refine⟨(Array.range (len*bq E.P e)).map (zv.cells[·%zv.cells.size]!),by simp[P6,Dy],λcells hf=>?_⟩;exact run_buildSlice w t e len _ cells iz zv hu z1 z2 (by rw[z3,Dy];omega) (by rw[z3];exact h0) (by rw[z3];simp only[Dy]at hf⊢;exact hf)
      obtain⟨c0,c1,c2⟩:=XD;obtain⟨c',d1,d2,d3,d4⟩:=p3 E.P μ φ (parts.map λ(i,x)=>(i,a.eval x)).toList c0 ae (λj i v hj=>by simp only[AT,asI]at hj;obtain⟨y,hy,he⟩:=hj;simp only[aq4]at he;obtain⟨rfl,rfl⟩:=he;exact⟨a.eval y.2,by simp[hy],(aL hR y.2).1⟩) (by rw[c1];simp);have sB:c'.size=cs.length:=by rw[d2,c1,vR];omega
      have fG:∀(i:Nat)u y,cs[i]?=U u->c'[i]?=U y->az E.P μ φ u y/\y.oneCell'=true:=λi u y hu hy=>by have⟨z,e1,e2,e3⟩:=d4 i u hu;rw[azf,hy]at e1;cases e1;exact⟨e2,e3⟩
      obtain⟨φ',a1,a2,a3⟩:=Et E.P E.aQ w0 μ φ w (w.alloc (.cells c' e)) _ (NI (U w.heap.size) len cs.length 1) hR.toaR hR.nS (pk.alloc (o:=.cells c' e) hR.toaR rfl (λφ' hp ZZ=>⟨w.heap.size,c',e,by rw[hp],iG w _,sB,λi u y hu hy=>(fG i u y hu hy).1.mono (λ_ _ h=>h) λid hid=>ZZ id (cq (awU hu) hid),λi y hy=>by
       have bX:=(auA.1 hy).1;have hu:cs[i]?=U (cs[i]'(aa)):=ta aa;exact(fG i _ y hu hy).2,by rw[hp]⟩) (λid hid=>by
       have h5:=p2 id hid;rw[azI]at h5;have⟨u,hu,hh⟩:=dF.1 h5;obtain⟨y,hy,rfl⟩:=ayl.1 hu;exact(aL hR y.2).2 id hh))
      refine⟨.slice (U ⟨w.heap.size,0,Z⟩) len len,w.alloc (.cells c' e),μ,φ',by simp only[execOp,Sem.run_bind,c2 c' d1,Result.andThen_ok,Sem.run_pure],a2,a3,?_,λid hid=>?_⟩
      .have:=az.os (P:=E.P) (μ:=μ) (φ:=φ') (id:=site) (g:=w.heap.size) (by rw[a1]);rw[a1,vR]at this;exact this
      .have hid:=T0 hid;subst hid;simp[Gj]
     .cases h
    .cases h
   rename_i avT;have hnf:acE E e=false:=by simpa using avT
   split at h
   .rename_i hfz;split at h
    .rename_i es m1 XB;split at h
     .rename_i hc;obtain⟨hlen,fa,Mr,hzs⟩:=hc;have⟨zc,hzc⟩:=aym.1 hzs;have⟨iz,zv,z1,z2,z3,_⟩:=eA hzc;have hpm:=(Ag XB).2 m;have⟨p1,p2,p3⟩:=Cw hpm;refine⟨_,_,_,_,h,⟨λhd=>⟨rfl,[],rfl,ae,λf2 m2 hf _ R' k'=>?_⟩,λ_ _=>⟨rfl,rfl⟩,λw0 μ φ a w K Q hR hK=>?_⟩⟩
      .have hpc:(parts.toList.map λ(x:Nat×Operand)=>(x.1,cd E f2 x.2))=parts.toList.map λ(x:Nat×Operand)=>(x.1,cd E f x.2):=BR λx hx=>hf x.2 (by simp only[Op.operands,aAf,ayl];exact⟨x,hx,rfl⟩);simp only[cT,hu,hnf,AI,OF,hfz,By];rw[hpc];simp only[XB];rw[BY ⟨hlen,fa,Mr,hzs⟩];rfl
      have P6:parts.toList.length=len:=by rw[<-hlen,p2];simp
      have XD:∃c0:Array Value,c0.size=(0+parts.toList.length)*bq E.P e/\∀cells,Instr.fill (λi=>U (i*bq E.P e,bq E.P e)) c0 (parts.map λ(i,x)=>(i,a.eval x)).toList=U cells->(Instr.buildSlice t len (parts.map λ(i,x)=>(i,a.eval x))).run E.P w=.ok (.slice (U ⟨w.heap.size,0,Z⟩) len len) (w.alloc (.cells cells e)):=by
       by_cases h0:len*bq E.P e=0
       .have W0:len=0:=by rcases Nat.mul_eq_zero.1 h0 with h|h<;>omega
        refine⟨#[],by simp[P6,W0],λcells hf=>?_⟩;subst W0;have Ta:parts= #[]:=by apply azT;simpa using ayh P6
        subst Ta;have hf':cells= #[]:=by simpa[Instr.fill]using hf.symm
        subst hf';simp[Instr.buildSlice,run_underlying hu,sizeOf,typeInfo,z1,newRow,Instr.fill,Array.range_zero']
       .refine⟨(Array.range (len*bq E.P e)).map (zv.cells[·%zv.cells.size]!),by simp[P6],λcells hf=>?_⟩;exact run_buildSlice w t e len _ cells iz zv hu z1 z2 (by rw[z3];omega) (by rw[z3];exact h0) (by rw[z3];exact hf)
      obtain⟨c0,c1,c2⟩:=XD;obtain⟨μ',c',d1,d2,d3,d4,d5⟩:=p3 E.P E.aQ w0 μ φ w (parts.map λ(i,x)=>(i,a.eval x)).toList [] c0 hR.toaR ae (λj i v hj=>by simp only[AT,asI]at hj;obtain⟨y,hy,he⟩:=hj;simp only[aq4]at he;obtain⟨rfl,rfl⟩:=he;exact⟨a.eval y.2,by simp[hy],(aL hR y.2).1⟩) rfl (by simpa using c1) (by simpa using Cells.nil);simp only[azg]at d5;have hb:ou w.heap.size w (w.alloc (.cells c' e)):=(ou.refl _ w).alloc (ayd _) _;have hA:ba E.P μ' (λ_=>NI (U w.heap.size) len es.length (bq E.P e)) (w.alloc (.cells c' e)) 0 (bq E.P e) e es:=ba.xc (g:=w.heap.size) rfl rfl fa (by simp only[maxLen,NI];have:len*1<=len*bq E.P e:=azy _ fa;omega) (iG w _) (by simp only[NI];rw[d4];simp[<-P6]) (by simp only[NI];omega) (by have h1:=d5.len;rw[ayu (by rw[h1];exact ayd _)];exact d5);have Ad:=oC d2 (w.alloc (.cells c' e));have hV:=hA.UY (g:=w.heap.size) rfl (lo:=0) (len:=len) aa (cap:=len) (by simp only[NI];omega) (ayd _) Ad (by simp[dc]);rw[aBp,aAn,ayu aa]at hV;exact iK (by simp only[execOp,Sem.run_bind,c2 c' d3,Result.andThen_ok,Sem.run_pure]) (hK _ _ _ φ (d2.called hb) ((hR.nS.sL d1 p1).sL Ad (.refl _)) (.pv hV) (λid hid=>by cases hid))
     .cases h
    .cases h
   rename_i avU;split at h
   .rename_i es m1 XB;split at h
    .rename_i hc;obtain⟨hlen,fa,Mr,hzs⟩:=hc;have⟨zc,hzc⟩:=aym.1 hzs;have⟨iz,zv,z1,z2,z3,_⟩:=eA hzc;have hmm:∃mm,mm=(if draw then m else m1)/\gS m (bq E.P e) (aS E.P e) 0 (parts.toList.map λ(i,x)=>(i,cd E f x))=U (es,mm):=by
      cases draw with
      |true=>exact⟨m,rfl,(Ag XB).2 m⟩
      |false=>exact⟨m1,rfl,XB⟩
     obtain⟨mm,hme,hpm⟩:=hmm;rw[<-hme]at h;have⟨p1,p2,p3⟩:=Cw hpm;have⟨f',m',hn,hk,Gj,Gk,Et⟩:=cU h;refine⟨_,_,_,_,hk,.make (b:=.arr (bq E.P e) e es) (λhd=>by
      have:=Gk hd;rw[hd]at hme;simp only[By]at hme;rw[hme]at this;exact this) (λhd f2 m2 hf hs R' k'=>by
      subst hd;have hpc:(parts.toList.map λ(x:Nat×Operand)=>(x.1,cd E f2 x.2))=parts.toList.map λ(x:Nat×Operand)=>(x.1,cd E f x.2):=BR λx hx=>hf x.2 (by simp only[Op.operands,aAf,ayl];exact⟨x,hx,rfl⟩);simp only[cT,hu,hnf,AI,OF,avU,By];rw[hpc];simp only[By]at XB;simp only[XB];rw[BY ⟨hlen,fa,Mr,hzs⟩];simp only[fresh,hs]) λw0 μ φ a w hR=>?_⟩
     have P6:parts.toList.length=len:=by rw[<-hlen,p2];simp
     have XD:∃c0:Array Value,c0.size=(0+parts.toList.length)*bq E.P e/\∀cells,Instr.fill (λi=>U (i*bq E.P e,bq E.P e)) c0 (parts.map λ(i,x)=>(i,a.eval x)).toList=U cells->(Instr.buildSlice t len (parts.map λ(i,x)=>(i,a.eval x))).run E.P w=.ok (.slice (U ⟨w.heap.size,0,Z⟩) len len) (w.alloc (.cells cells e)):=by
      by_cases h0:len*bq E.P e=0
      .have W0:len=0:=by rcases Nat.mul_eq_zero.1 h0 with h|h<;>omega
       refine⟨#[],by simp[P6,W0],λcells hf=>?_⟩;subst W0;have Ta:parts= #[]:=by apply azT;simpa using ayh P6
       subst Ta;have hf':cells= #[]:=by simpa[Instr.fill]using hf.symm
       subst hf';simp[Instr.buildSlice,run_underlying hu,sizeOf,typeInfo,z1,newRow,Instr.fill,Array.range_zero']
      .refine⟨(Array.range (len*bq E.P e)).map (zv.cells[·%zv.cells.size]!),by simp[P6],λcells hf=>?_⟩;exact run_buildSlice w t e len _ cells iz zv hu z1 z2 (by rw[z3];omega) (by rw[z3];exact h0) (by rw[z3];exact hf)
     obtain⟨c0,c1,c2⟩:=XD;obtain⟨μ',c',d1,d2,d3,d4,d5⟩:=p3 E.P E.aQ w0 μ φ w (parts.map λ(i,x)=>(i,a.eval x)).toList [] c0 hR.toaR ae (λj i v hj=>by simp only[AT,asI]at hj;obtain⟨y,hy,he⟩:=hj;simp only[aq4]at he;obtain⟨rfl,rfl⟩:=he;exact⟨a.eval y.2,by simp[hy],(aL hR y.2).1⟩) rfl (by simpa using c1) (by simpa using Cells.nil);simp only[azg]at d5;obtain⟨φ',a1,a2,a3⟩:=Et E.P E.aQ w0 μ' φ w _ _ (NI (U w.heap.size) len es.length (bq E.P e)) d2 (hR.nS.sL d1 p1) (pk.alloc (o:=.cells c' e) d2 rfl (λφ' hp _=>ba.xc (g:=w.heap.size) (by rw[hp]) rfl fa (by rw[hp];simp only[maxLen];have:len*1<=len*bq E.P e:=azy _ fa;omega) (iG w _) (by rw[hp,d4];simp[<-P6]) (by rw[hp];simp[hlen]) (by have h1:=d5.len;rw[ayu (by rw[h1];exact ayd _)];exact d5)) gu);refine⟨.slice (U ⟨w.heap.size,0,Z⟩) len len,w.alloc (.cells c' e),μ',φ',by simp only[execOp,Sem.run_bind,c2 c' d3,Result.andThen_ok,Sem.run_pure],a2,a3,?_,λid hid=>?_⟩
     .have:=az.os (P:=E.P) (μ:=μ') (φ:=φ') (id:=site) (g:=w.heap.size) (by rw[a1]);rw[a1,hlen]at this;exact this
     .have hid:=T0 hid;subst hid;simp[Gj]
    .cases h
   .cases h
  .cases h
 case call c=>exact absurd rfl (hc c)
 case range t x=>cases hit
 case next x s=>cases hit
 case entry x=>cases hit
 all_goals (cases h)
variable{dst:Option Nat}{after:Array Edge}{guard:Option (Nat×Bool)}
def ahs(hE:mn E){callee:Callee}{argTypes:Array TypeId}{type:TypeId}{pos:String}(h:cT E draw site ⟨dst,.call ⟨callee,args,argTypes⟩,type,pos,after,guard⟩ f m k=U r):(∃v f' m' ft,k v f' m' ft=U r/\ED E draw site ⟨dst,.call ⟨callee,args,argTypes⟩,type,pos,after,guard⟩ f m v f' m' ft)\/(draw=J/\P9 E ⟨dst,.call ⟨callee,args,argTypes⟩,type,pos,after,guard⟩ f m k r):=by
 unfold cT at h;simp only at h;have Ae:∀f2:Fr,(∀x∈(Op.call ⟨callee,args,argTypes⟩).operands,cd E f2 x=cd E f x)->args.toList.map (cd E f2)=args.toList.map (cd E f):=λf2 hf=>vT λx hx=>hf x (by simp_all[Op.operands,Call.operands]);have nI:=λ{w0 μ φ a w}(hR:Rel E.P E.aQ E.fn.ntmps w0 μ φ f m a w)=>pP hR (args:=args);have known:∀(g:FuncId)(vs:List V),FN E draw site g vs f m k=U r->(∀w0 μ φ a w,Rel E.P E.aQ E.fn.ntmps w0 μ φ f m a w->∃xs,(execOp a.eval ⟨dst,.call ⟨callee,args,argTypes⟩,type,pos,after,guard⟩).run E.P w=(callFunc g xs).run E.P w/\vs.length=xs.size/\(∀(i:Nat)v x,vs[i]?=U v->xs[i]?=U x->az E.P μ φ v x)/\∀id,cX id vs=Y->(m id).isSome=Y)->(∀(f2:Fr)(m2:Mem),(∀x∈(Op.call ⟨callee,args,argTypes⟩).operands,cd E f2 x=cd E f x)->∀(R':Type)(k':V->Fr->Mem->bS->Option R'),cT E Y site ⟨dst,.call ⟨callee,args,argTypes⟩,type,pos,after,guard⟩ f2 m2 k'=FN E Y site g vs f2 m2 k')->(∃v f' m' ft,k v f' m' ft=U r/\ED E draw site ⟨dst,.call ⟨callee,args,argTypes⟩,type,pos,after,guard⟩ f m v f' m' ft)\/(draw=J/\P9 E ⟨dst,.call ⟨callee,args,argTypes⟩,type,pos,after,guard⟩ f m k r):=by
  intro g vs hx xM aap;obtain h0|⟨Gk,⟨fn,c,f1,f2,f3⟩,k5⟩:=ahe hE hx;rotate_left
  .refine .inr ⟨Gk,And.intro (λc x y h=>by cases h) λrd w0 μ φ a w K Q _ hR hK=>Ms (λc h=>by cases h) ?_⟩;have⟨xs,x1,x2,x3,x4⟩:=xM w0 μ φ a w hR;unfold Oper.wp;rw[x1,Iw f1 f3 f2];rw[Oper.upon_enter];refine(k5 w0 μ φ _ w xs hR.toaR hR.nS x2 x3 x4).mono ?_;grind
  obtain⟨v,f',m',ft,k1,k2,ks,⟨fn,c,f1,f2,f3⟩,k5⟩:=h0;refine .inl ⟨v,f',m',ft,k1,⟨λhd=>?_,λ_ h=>ks h,λw0 μ φ a w K Q hR hK=>?_⟩⟩
  .obtain⟨d1,wr,d2,d3,d4⟩:=k2 hd;exact⟨d1,wr.toList,by rw[d2];cases wr<;>rfl,λx hx=>ao,λf2 m2 hf hm R' k'=>by rw[aap f2 m2 hf,d4 f2 m2 hm R' k'];cases wr<;>rfl⟩
  .obtain⟨xs,x1,x2,x3,x4⟩:=xM w0 μ φ a w hR;unfold Oper.wp;rw[x1,Iw f1 f3 f2];rw[Oper.upon_enter];refine(k5 w0 μ φ _ w xs hR.toaR hR.nS x2 x3 x4).mono ?_;grind
 have read:∀{v:V}{ft:bS},k v f m ft=U r->(∀(f2:Fr)(m2:Mem),(∀x∈(Op.call ⟨callee,args,argTypes⟩).operands,cd E f2 x=cd E f x)->(∀x∈ft,m2 x.2=m x.2)->∀(R':Type)(k':V->Fr->Mem->bS->Option R'),cT E Y site ⟨dst,.call ⟨callee,args,argTypes⟩,type,pos,after,guard⟩ f2 m2 k'=k' v f2 m2 ft)->(∀w0 μ φ a w,Rel E.P E.aQ E.fn.ntmps w0 μ φ f m a w->∃y,(execOp a.eval ⟨dst,.call ⟨callee,args,argTypes⟩,type,pos,after,guard⟩).run E.P w=.ok (.value y) w/\az E.P μ φ v y/\∀id,v.has id=Y->(m id).isSome=Y)->(∃v f' m' ft,k v f' m' ft=U r/\ED E draw site ⟨dst,.call ⟨callee,args,argTypes⟩,type,pos,after,guard⟩ f m v f' m' ft)\/(draw=J/\P9 E ⟨dst,.call ⟨callee,args,argTypes⟩,type,pos,after,guard⟩ f m k r):=λhk hn hs=>.inl ⟨_,_,_,_,hk,.read hn hs⟩;have one:∀{l:List Operand}{u:V},l.map (cd E f)=[u]->∃x,l=[x]/\u=cd E f x:=av
 have two:∀{l:List Operand}{u v:V},l.map (cd E f)=[u,v]->∃x y,l=[x,y]/\u=cd E f x/\v=cd E f y:=by
  intro l u v h;match l with
  |[]=>simp at h
  |[x]=>simp at h
  |[x,y]=>grind
  |_::_::_::_=>simp at h
 have four:∀{l:List Operand}{u1 u2 u3 u4:V},l.map (cd E f)=[u1,u2,u3,u4]->∃x y z t,l=[x,y,z,t]/\u1=cd E f x/\u2=cd E f y/\u3=cd E f z/\u4=cd E f t:=by
  intro l u1 u2 u3 u4 h;match l with
  |[]=>simp at h
  |[x]=>simp at h
  |[x,y]=>simp at h
  |[x,y,z]=>simp at h
  |[x,y,z,t]=>grind
  |_::_::_::_::_::_=>simp at h
 have DE:∀{A:Type}{xs:Array A}{x:A},xs.toList=[x]->xs= #[x]:=λh=>azT aa;have aht:∀{A:Type}{xs:Array A}{x y:A},xs.toList=[x,y]->xs= #[x,y]:=λh=>azT aa;split at h
 .rename_i u hu;obtain⟨x,hx,rfl⟩:=one hu;split at h
  .rename_i t ht;have⟨v,ft,v1,v2,v3,v4,v5⟩:=akK h;refine read v2 (λf2 m2 hf hm R' k'=>?_) (λw0 μ φ a w hR=>?_)
   .grind [cT]
   .have e1:=DE hx;have e2:=DE ht;subst e1;subst e2;obtain⟨z,z1,z2⟩:=v5 _ _ μ φ w _ type hR.toaR (aL hR x).1 (aL hR x).2;exact⟨z,by simp[execOp,resolve,invoke,builtin,z1],z2,λid hid=>ao⟩
  .cases h
 .rename_i u u' hu;obtain⟨x,y,hx,rfl,rfl⟩:=two hu;split at h
  next t t' ht=>have⟨hd,ht',place,f',m',k1,k2,k3⟩:=aao h;subst ht';refine .inl ⟨_,_,_,_,k1,⟨λhd'=>ao,λh _=>by(simp[gZ]at h),λw0 μ φ a w K Q hR hK=>?_⟩⟩;have e1:=aht hx;have e2:=aht ht;subst e1;subst e2;obtain⟨w',z,φ',z1,z2,z3,z4⟩:=k3 _ w0 μ φ w (cE E.fn.ntmps w0 a) _ _ type hR.toaR hR.nS (aL hR x).1 (aL hR y).1;exact iK (y:=z) (w':=w') (by simp[execOp,resolve,invoke,builtin,z1]) (hK z w' μ φ' z2 z3 z4 λid hid=>by have hid:=T0 hid;subst hid;omega)
  .cases h
 .rename_i u u' hu;obtain⟨x,y,hx,rfl,rfl⟩:=two hu;split at h
  .rename_i t ts ht;have⟨n,id,b,ft,c1,c2,c3⟩:=ahb h;refine .inl ⟨_,_,_,_,c2,⟨λhd=>⟨rfl,[(id,b)],rfl,ae,λf2 m2 hf hm R' k'=>?_⟩,λh _=>by(simp[gZ]at h),λw0 μ φ a w K Q hR hK=>?_⟩⟩
   .simp only[cT,Ae f2 hf,hu,ht];exact c1 m2 hm _ _
   .have e1:=aht hx;subst e1;have e2:argTypes=(t::ts).toArray:=azT aa;subst e2;obtain⟨w',φ',z1,z2,z3,z4⟩:=c3 _ w0 μ φ w (cE E.fn.ntmps w0 a) f _ _ ts type hR.toaR hR.nS (aL hR x).1 (aL hR y).1;exact iK (y:=.int .i64 n) (w':=w') (by simp only[execOp,resolve,invoke,builtin,Sem.run_bind,Sem.run_pure,Result.andThen_ok];rw[show(#[x,y].map a.eval)= #[a.eval x,a.eval y] by simp,z1];rfl) (hK _ w' μ φ' z2 z3 (.pv (.int z4)) ae)
  .cases h
 .rename_i u hu;obtain⟨x,hx,rfl⟩:=one hu;split at h
  .rename_i t ts ht;have⟨id,b,c1,c2,c3⟩:=aeB h;refine .inl ⟨_,_,_,_,c2,⟨λhd=>⟨rfl,[(id,b)],rfl,ae,λf2 m2 hf hm R' k'=>?_⟩,λh _=>by(simp[gZ]at h),λw0 μ φ a w K Q hR hK=>?_⟩⟩
   .simp only[cT,Ae f2 hf,hu,ht];exact c1 m2 (hm (Y,id) ae) _ _
   .have e1:=DE hx;subst e1;have e2:argTypes=(t::ts).toArray:=azT aa;subst e2;obtain⟨w',z1,z2,z3⟩:=c3 _ w0 μ φ w (cE E.fn.ntmps w0 a) f _ ts type hR.toaR hR.nS (aL hR x).1;exact iK (y:=.tuple #[]) (w':=w') (by simp only[execOp,resolve,invoke,builtin,Sem.run_bind,Sem.run_pure,Result.andThen_ok];rw[show(#[x].map a.eval)= #[a.eval x] by simp,z1];rfl) (hK _ w' μ φ z2 z3 .top ae)
  .cases h
 .rename_i u u' hu;obtain⟨x,y,hx,rfl,rfl⟩:=two hu;have⟨q,q1,q2,q3⟩:=ag5 h;refine read q2 (λf2 m2 hf hm R' k'=>?_) (λw0 μ φ a w hR=>?_)
  .grind [cT]
  .have e1:=aht hx;subst e1;obtain⟨z,z1,z2⟩:=q3 E.P μ φ w _ _ (aL hR x).1 (aL hR y).1;exact⟨z,by simp[execOp,resolve,invoke,builtin,Builtin.min_,z1],.pv z2,ae⟩
 .rename_i u u' hu;obtain⟨x,y,hx,rfl,rfl⟩:=two hu;have⟨q,q1,q2,q3⟩:=KP h;refine read q2 (λf2 m2 hf hm R' k'=>?_) (λw0 μ φ a w hR=>?_)
  .grind [cT]
  .have e1:=aht hx;subst e1;obtain⟨z,z1,z2⟩:=q3 E.P μ φ w _ _ (aL hR x).1 (aL hR y).1;exact⟨z,by simp[execOp,resolve,invoke,builtin,Builtin.max_,z1],.pv z2,ae⟩
 .rename_i u1 u2 u3 u4 hu;obtain⟨x,y,z,t,hx,rfl,rfl,rfl,rfl⟩:=four hu;have⟨q,q1,q2,q3⟩:=ag6 h;refine read q2 (λf2 m2 hf hm R' k'=>?_) (λw0 μ φ a w hR=>?_)
  .grind [cT]
  .have e1:args= #[x,y,z,t]:=azT aa;subst e1;obtain⟨v1,v2,v3,z1,z2,z3,z4⟩:=q3 E.P μ φ w _ _ _ _ (aL hR x).1 (aL hR y).1 (aL hR z).1 (aL hR t).1;exact⟨v3,by simp[execOp,resolve,invoke,builtin,Builtin.max_,z1,z2,z3],.pv z4,ae⟩
 .rename_i _ g;refine known g _ h (λw0 μ φ a w hR=>⟨args.map a.eval,?_,(pP hR).1,(pP hR).2,λid hid=>zH hR hid⟩) (λf2 m2 hf R' k'=>?_)
  .simp[execOp,resolve,Deferred.ofValue,invoke,Act.eval]
  .simp only[cT,Ae f2 hf]
 .rename_i _ tm;split at h
  .rename_i g caps za;refine known (FP g) _ h (λw0 μ φ a w hR=>?_) (λf2 m2 hf R' k'=>?_)
   .have h1:=(aL hR (.tmp tm)).1;rw[za]at h1;have hlc:=(aL hR (.tmp tm)).2;rw[za]at hlc;generalize hy:a.eval (.tmp tm)=y at h1;cases h1 with
    | @fn _ _ xs c1 c2=>
     obtain⟨o1,o2⟩:=pP hR (args:=args);obtain⟨b1,b2⟩:=acY (g:=g) ae o2 c1 c2;refine⟨KW g xs (args.map a.eval),?_,b1,b2,λid hid=>?_⟩
     .cases e:Nat.blt g Pg with
      |true=>rw[zS e]at hy;simp[execOp,resolve,Deferred.ofValue,invoke,hy,FP,KW,e]
      |false=>rw[Xo e]at hy;simp[execOp,resolve,Deferred.ofValue,invoke,hy,FP,KW,e]
     .obtain⟨v,hv,hh⟩:=dF.1 hid;rcases ahp hv with hv|hv
      .exact zH hR (dF.2 ⟨v,hv,hh⟩)
      .exact hlc id (by simp only[V.has];exact dF.2 ⟨v,hv,hh⟩)
   .have:=hf (.tmp tm) (by simp[Op.operands,Call.operands]);simp only[cT,Ae f2 hf,this,za]
  .rename_i g caps za;refine known (FP g) _ h (λw0 μ φ a w hR=>?_) (λf2 m2 hf R' k'=>?_)
   .have h1:=(aL hR (.tmp tm)).1;rw[za]at h1;generalize hy:a.eval (.tmp tm)=y at h1;cases h1 with
    |pv h1=>cases h1 with
     | @fn _ _ xs c1 c2=>
      obtain⟨o1,o2⟩:=pP hR (args:=args);obtain⟨b1,b2⟩:=acY (g:=g) (caps:=caps.map .pv) (xs:=xs) ae o2 (by simpa using c1) (λi v x hv hx=>by simp only[AT,asI]at hv;obtain⟨q,hq,rfl⟩:=hv;exact .pv (c2 _ q x hq hx));refine⟨KW g xs (args.map a.eval),?_,b1,b2,λid hid=>?_⟩
      .cases e:Nat.blt g Pg with
       |true=>rw[zS e]at hy;simp[execOp,resolve,Deferred.ofValue,invoke,hy,FP,KW,e]
       |false=>rw[Xo e]at hy;simp[execOp,resolve,Deferred.ofValue,invoke,hy,FP,KW,e]
      .obtain⟨v,hv,hh⟩:=dF.1 hid;rcases ahp hv with hv|hv
       .exact zH hR (dF.2 ⟨v,hv,hh⟩)
       .obtain⟨q,_,rfl⟩:=ayl.1 hv;cases hh
   .have:=hf (.tmp tm) (by simp[Op.operands,Call.operands]);simp only[cT,Ae f2 hf,this,za]
  .rename_i id za;split at h
   .cases h
   .rename_i Gk;refine .inr ⟨by simpa using Gk,And.intro (λc x y h=>by cases h) λrd w0 μ φ a w K Q hY hR hK=>?_⟩;have h1:=(aL hR (.tmp tm)).1;rw[za]at h1;generalize hy:a.eval (.tmp tm)=y at h1;cases h1 with
    | @yl _ g hg=>
     obtain⟨o1,o2⟩:=pP hR (args:=args);obtain⟨fn,tmps,assign,body,y1,y2⟩:=hY w0.hid _ _ _ _ _ _ _ _ h μ φ (cE E.fn.ntmps w0 a) w (args.map a.eval) hR.toaR hR.nS (λt ht=>by unfold cE;rw[IT aa]) o1 o2 (λid hid=>zH hR hid) g hg;refine⟨λ_ _=>trivial,?_⟩;rw[Oper.semAt_eq _ _ _ (λc h=>by cases h)];have xM:(execOp a.eval ⟨dst,.call ⟨.value (.tmp tm),args,argTypes⟩,type,pos,after,guard⟩).run E.P w=.ok (.round g fn tmps assign body) w:=by simp only[execOp,resolve,Deferred.ofValue,hy];simpa[invoke]using y1
     rw[xM,Oper.uponIn_round];refine⟨λh=>(by cases h),(FR.akV y2).mono ?_⟩;rintro e w' ⟨v,f',m',y,μ',φ',h0,rfl,_,h1,h2,h3,h4⟩;exact hK v f' m' y w' μ' φ' h0 h1 h2 h3 h4
  .cases h
 .cases h
def XE{a b:Option R}(h:agree a b=U r):a=U r/\b=U r:=by
 unfold agree at h;split at h
 next e=>exact⟨h,by rw[<-e];exact h⟩
 .cases h
def aeO{op:BinOp}{t:TypeId}{es:List PV}{k:Bool->Option R}(h:aab E op t es k=U r):∃e,E.P.underlying t=U (.slice e)/\((op=.eql/\∀b,(b=Y->es=[])->k b=U r)\/(op=.neq/\∀b,(b=J->es=[])->k b=U r)):=by
 unfold aab at h;split at h
 .rename_i e hu;refine⟨e,hu,.inl ⟨rfl,λb hb=>?_⟩⟩;split at h
  .obtain⟨h1,h2⟩:=XE h;cases b<;>assumption
  .rename_i cO;cases b with
   |true=>exact absurd (by simp[hb rfl]) cO
   |false=>exact h
 .rename_i e hu;refine⟨e,hu,.inr ⟨rfl,λb hb=>?_⟩⟩;split at h
  .obtain⟨h1,h2⟩:=XE h;cases b<;>assumption
  .rename_i cO;cases b with
   |false=>exact absurd (by simp[hb rfl]) cO
   |true=>exact h
 .cases h
def akX{op:BinOp}{t:TypeId}{x y:Operand}{ty type:TypeId}{pos:String}{s:Nat}{es:List PV}(h:cT E draw site ⟨dst,.binOp op t x y ty,type,pos,after,guard⟩ f m k=U r)(hx:cd E f x=.pv (.rs s es))(hy:cd E f y=.il):draw=J/\P9 E ⟨dst,.binOp op t x y ty,type,pos,after,guard⟩ f m k r:=by
 simp only[cT,hx,hy]at h;split at h
 .cases h
 .rename_i hd;refine⟨by simpa using hd,And.intro (λc x y h=>by cases h) λrd w0 μ φ a w K Q _ hR hK=>Ms (λc h=>by cases h) ?_⟩;have⟨e,hu,hk⟩:=aeO h;have h1:=(aL hR x).1;have h2:=(aL hR y).1;rw[hx]at h1;rw[hy]at h2;generalize hvx:a.eval x=vx at h1;generalize hvy:a.eval y=vy at h2;have OM:∃(ad:Option Addr)(n c:Nat),vx=.slice ad n c/\(ad=Z->es=[]):=by
   cases h1 with
   |pv h1=>
    cases h1 with
    |pj=>exact⟨Z,0,0,rfl,λ_=>rfl⟩
    |WW _=>exact⟨_,_,_,rfl,λ_=>rfl⟩
    |rs _ _ _ _ _ _ _=>exact⟨_,_,_,rfl,λh=>by cases h⟩
  obtain⟨ad,n,c,rfl,anQ⟩:=OM;cases h2;have go:∀b,(binOp op t (.slice ad n c) (.slice Z 0 0)).run E.P w=.ok (.bool b) w->k (.pv (.bool b)) f m [(Y,0)]=U r->(⟨dst,.binOp op t x y ty,type,pos,after,guard⟩:Oper).wp E.P a w K Q:=λb hb hkb=>by refine iK (y:=.bool b) (w':=w) ?_ (hK _ _ _ _ _ _ _ hkb hR.toaR hR.nS (.pv .bool) ae);simp only[execOp,eqGuard_at_slice,Sem.run_bind,Sem.run_pure,hvx,hvy,Result.andThen_ok];rw[hb];rfl
  rcases hk with⟨rfl,hk⟩|⟨rfl,hk⟩
  .refine go ad.isNone (Lib.run_eql_slice_nil w t e ad n c 0 0 hu) (hk _ λhb=>anQ (by simpa using hb))
  .refine go (!ad.isNone) ?_ (hk _ λhb=>anQ (by simpa using hb));simp only[binOp];simp[Op.equal,Op.maxDepth,Lib.run_equalIn_slice_nil w 9999 t e ad n c 0 0 hu]
def ahu(h:cT E draw site o f m k=U r)(hi:aaf o.op=Y):draw=J/\P9 E o f m k r:=by
 obtain⟨dst,op,type,pos,after,guard⟩:=o;unfold cT at h;cases op<;>first|(cases hi;done)|skip
 case range t x=>
  simp only at h;split at h
  .cases h
  next hd=>refine⟨by simpa using hd,And.intro (λc x y h=>by cases h) λrd w0 μ φ a w K Q _ hR hK=>Ms (λc h=>by cases h) ?_⟩;have⟨f',m',hk,hl,hs⟩:=aeI h;obtain⟨w',y',μ',φ',r1,r2,r3,r4⟩:=hs _ _ _ _ _ _ _ hR.toaR hR.nS (aL hR x).1;exact iK (y:=y') (w':=w') (by simp[execOp,r1]) (hK _ _ _ _ _ _ _ hk r2 r3 r4 λid hid=>by have:=T0 hid;subst this;exact hl)
 case next x s=>
  simp only at h;split at h
  .cases h
  next hd=>simp only[ayj,aAI,ay1]at hd;obtain⟨hd,rfl⟩:=hd;refine⟨hd,And.intro (λc x y h=>by cases h) λrd w0 μ φ a w K Q _ hR hK=>Ms (λc h=>by cases h) ?_⟩;obtain⟨v,m',y',w',hk,hv,hl,r1,r2,r3⟩:=ahf h _ _ _ _ _ _ type hR.toaR (aL hR x).1;exact iK (y:=y') (w':=w') (by simp[execOp,r1]) (hK _ _ _ _ _ _ _ hk r2 (hR.nS.sL (λ_ _ h=>h) hl) r3 λid hid=>by rw[hv id]at hid;cases hid)
 case entry x=>
  simp only at h;split at h
  .cases h
  next hd=>refine⟨by simpa using hd,And.intro (λc x y h=>by cases h) λrd w0 μ φ a w K Q _ hR hK=>Ms (λc h=>by cases h) ?_⟩;obtain⟨v,m',y',hk,hv,hl,r1,r3,r2⟩:=aeJ h _ _ _ _ _ _ _ hR.toaR (aL hR x).1;exact iK (y:=y') (w':=w) (by simp[execOp,r1]) (hK _ _ _ _ _ _ _ hk r3 (hR.nS.sL (λ_ _ h=>h) hl) r2 λid hid=>by rw[hv id]at hid;cases hid)
def akY(hE:mn E)(h:cT E draw site o f m k=U r):(∃v f' m' ft,k v f' m' ft=U r/\ED E draw site o f m v f' m' ft)\/(draw=J/\P9 E o f m k r):=by
 by_cases hc:∃c,o.op=.call c
 .obtain⟨dst,op,type,pos,after,guard⟩:=o;obtain⟨⟨callee,args,argTypes⟩,hc⟩:=hc;simp only at hc;subst hc;exact ahs hE h
 .by_cases hb:∃op t x y ty s es,o.op=.binOp op t x y ty/\cd E f x=.pv (.rs s es)/\cd E f y=.il
  .obtain⟨op,t,x,y,ty,s,es,h1,h2,h3⟩:=hb;obtain⟨dst,op',type,pos,after,guard⟩:=o;simp only at h1;subst h1;exact .inr (akX h h2 h3)
  .cases hi:aaf o.op with
   |true=>exact .inr (ahu h hi)
   |false=>exact .inl (akW hE h (λc Sb=>hc ⟨c,Sb⟩) (λop t x y ty s es h1 h2 h3=>hb ⟨op,t,x,y,ty,s,es,h1,h2,h3⟩) hi)
def Rel.JL{nt:Nat}{P:Program}{G:Nat->Option (List PV)}{w0:bI}{μ:Ro}{φ:Nat->aT}{f:Fr}{m:Mem}{a:Act}{w:World}(h:Rel P G nt w0 μ φ f m a w){K:Ro}(hK:∀b o,K b=U o->μ b=U o)(hK0:∀b o,w0.eF b=U o->K b=U o):Rel P G nt {w0 with eF:=K} μ φ f m a w:={toaR:=h.toaR.JL hK,size:=h.size,defers:=h.defers,ow:=λb o hb=>hK0 b o (h.ow b o hb),fr:=h.fr,live:=h.live}
def Rel.PW{nt:Nat}{P:Program}{G:Nat->Option (List PV)}{w0:bI}{μ:Ro}{φ:Nat->aT}{f:Fr}{m:Mem}{a:Act}{w:World}{K:Ro}(h:Rel P G nt {w0 with eF:=K} μ φ f m a w)(hK:∀b o,w0.eF b=U o->K b=U o)(ho:∀b o,w0.ow b=U o->w0.eF b=U o):Rel P G nt w0 μ φ f m a w:={toaR:=h.toaR.PW hK,size:=h.size,defers:=h.defers,ow:=ho,fr:=h.fr,live:=h.live}
abbrev XF(μ μ':Ro):Prop:=∀b o,μ b=U o->μ' b=U o
def aaF(h:cT E draw site o f m k=U r):∀c,o.op≠.defer c:=by intro c hc;obtain⟨dst,op,type,pos,after,guard⟩:=o;simp only at hc;subst hc;simp[cT]at h
def ED.JO{f':Fr}{ft:bS}(h:ED E draw site o f m v f' m' ft)(hd:∀c,o.op≠.defer c)(rd:Option Nat)(w0:bI)(μ:Ro)(φ:Nat->aT)(a:Act)(w:World)(K:Act->World->Prop)(Q:Exit->Act->World->Prop)(hR:Rel E.P E.aQ E.fn.ntmps w0 μ φ f m a w)(hK:∀y w' μ' φ',XF μ μ'->aR E.P E.aQ w0 μ' φ' m' w'->cR E.P μ' φ' m' f' (cE E.fn.ntmps w0 a)->az E.P μ' φ' v y->(∀id,v.has id=Y->(m' id).isSome=Y)->K (a.put o.dst y) w'):o.wpIn (FR rd) 0 E.P a w K Q:=Ms hd (h.sound {w0 with eF:=μ} μ φ a w K Q (hR.JL (λ_ _ h=>h) hR.eF) λy w' μ' φ' h1 h2 h3 h4=>hK y w' μ' φ' h1.eF (h1.PW hR.eF) h2 h3 h4)
def P9.JO(h:P9 E o f m k r)(rd:Option Nat)(w0:bI)(μ:Ro)(φ:Nat->aT)(a:Act)(w:World)(K:Act->World->Prop)(Q:Exit->Act->World->Prop)(hY:yZ E.P E.aQ E.fn.ntmps E.yl w0)(hR:Rel E.P E.aQ E.fn.ntmps w0 μ φ f m a w)(hK:∀v f' m' y w' μ' φ',k v f' m' [(Y,0)]=U r->XF μ μ'->aR E.P E.aQ w0 μ' φ' m' w'->cR E.P μ' φ' m' f' (cE E.fn.ntmps w0 a)->az E.P μ' φ' v y->(∀id,v.has id=Y->(m' id).isSome=Y)->K (a.put o.dst y) w'):o.wpIn (FR rd) 0 E.P a w K Q:=h.2 rd {w0 with eF:=μ} μ φ a w K Q (hY.JL hR.eF) (hR.JL (λ_ _ h=>h) hR.eF) λv f' m' y w' μ' φ' h0 h1 h2 h3 h4=>hK v f' m' y w' μ' φ' h0 h1.eF (h1.PW hR.eF) h2 h3 h4
end
section
variable {R:Type} {E:Env}
variable{site:Nat}{o:Oper}{k:V->Fr->Mem->bS->Option R}
theorem aaG{f:Fr}{m:Mem}{sp:Sp}{r:R}(hs:Jy E site o f m=U sp)(h:xsp E site sp f m k=U r):∃v wr,k v (kf (sp.info site).1 f) (BN wr (km (sp.info site).1 m)) (sp.info site).2=U r/\(∀x∈wr,(Y,x.1)∈(sp.info site).2)/\(∀x∈(sp.info site).1,(Y,x.2)∈(sp.info site).2)/\(∀(f2:Fr)(m2:Mem)(R':Type)(k':V->Fr->Mem->bS->Option R'),xsp E site sp f2 m2 k'=k' v (kf (sp.info site).1 f2) (BN wr (km (sp.info site).1 m2)) (sp.info site).2)/\(∀c,o.op≠.defer c)/\ED E J site o f m v (kf (sp.info site).1 f) (BN wr (km (sp.info site).1 m)) (sp.info site).2:=by
 obtain⟨dst,op,type,pos,after,guard⟩:=o;unfold Jy at hs;cases op;case store t a x=>
  simp only at hs;split at hs
  .rename_i id i off ha;split at hs
   .rename_i s et es hm;split at hs
    .rename_i cs hc;split at hs
     .rename_i ps j id2 ht;split at hs
      .rename_i pn;simp only[tc]at hs;subst hs;simp only[T1,tb,ayx]at pn;obtain⟨⟨hb,h0⟩,cO⟩:=pn;have cO:id2≠id:=λe=>av
       unfold xsp at h;have⟨e,he,h⟩:=IS.1 h;refine⟨_,_,h,pw,pw,λf2 m2 R' k'=>by simp only[xsp,he,ayg];rfl,ae,⟨λh=>(nomatch h),λ_ h=>absurd (h (Y,id) pw) ae,λw0 μ φ ac w K Q hR hK=>?_⟩⟩;obtain⟨w',φ',u1,u2,u3⟩:=ahh hm hc ht hb h0 cO he hR.toaR hR.nS (by have:=(aL hR a).1;rw[ha]at this;exact this) (aL hR x).1;exact GF (by simp[execOp,u1]) (hK undef w' μ φ' u2 u3 .top ae)
      .cases hs
     .cases hs
    .cases hs
   .cases hs
  .cases hs
 case buildSlice t len parts=>
  simp only at hs;split at hs
  .rename_i e v hu hp;split at hs
   .rename_i cs hc;split at hs
    .rename_i ps j id2 ht arQ;split at hs
     .rename_i p XB;split at hs
      .rename_i pn;simp only[tc]at hs;subst hs;simp only[T1,tb]at pn;obtain⟨⟨⟨hlen,fa⟩,hsm⟩,hz⟩:=pn;have hlen:=T0 hlen;subst hlen;refine⟨_,_,h,pw,pw,λf2 m2 R' k'=>rfl,ae,⟨λh=>(nomatch h),λh _=>by(simp[gZ]at h),λw0 μ φ ac w K Q hR hK=>?_⟩⟩;obtain⟨x,hx,hxv⟩:∃x,parts= #[(0,x)]/\cd E f x=v:=by
        obtain⟨l⟩:=parts;match l,hp with
        |[(a,x)],hp=>simp_all
       subst hx;obtain⟨y,w',φ',u1,u2,u3,u4⟩:=aeK hu hc ht arQ XB fa hsm hz hR.toaR hR.nS (by have:=(aL hR x).1;rw[hxv]at this;exact this);exact iK (y:=y) (w':=w') (by simp_all[execOp,Sem.run_bind,Result.andThen_ok,Sem.run_pure]) (hK y w' μ φ' u2 u3 u4 λj hj=>by have hj:=T0 hj;subst hj;simp[BN])
      .cases hs
     .cases hs
    .cases hs
   .cases hs
  .cases hs
 case call c=>
  obtain⟨callee,args,argTypes⟩:=c;simp only at hs;split at hs
  .rename_i id x t t' ha hty;split at hs
   .rename_i e s et es hu hm;split at hs
    .rename_i pn;simp only[T1,tb]at pn;obtain⟨⟨⟨⟨⟨h1,h2⟩,h3⟩,h4⟩,h5⟩,h6⟩:=pn;subst h3;have h1:et=e:=aa
     subst h1;have Ae:∃y z,args= #[y,z]/\cd E f y=.os id/\cd E f z=x:=by
      obtain⟨l⟩:=args;rcases l with _|⟨y,_|⟨z,_|⟨u,l⟩⟩⟩
      .simp at ha
      .simp at ha
      .grind
      .simp at ha
     obtain⟨y,z,rfl,hy,hz⟩:=Ae;have akZ:argTypes= #[t',t']:=azT aa;subst akZ;have main:∀(new:List PV)(src:Option Nat)(rd:bS),sp=.app id s et es new src rd->((∃id2,src=U id2/\id2≠id/\x=.os id2/\m id2=U (.nest s et new))\/(src=Z/\im m s x=U (new,rd)))->∃v wr,k v (kf (sp.info site).1 f) (BN wr (km (sp.info site).1 m)) (sp.info site).2=U r/\(∀x∈wr,(Y,x.1)∈(sp.info site).2)/\(∀x∈(sp.info site).1,(Y,x.2)∈(sp.info site).2)/\(∀(f2:Fr)(m2:Mem)(R':Type)(k':V->Fr->Mem->bS->Option R'),xsp E site sp f2 m2 k'=k' v (kf (sp.info site).1 f2) (BN wr (km (sp.info site).1 m2)) (sp.info site).2)/\(∀c,(⟨dst,.call ⟨.builtin .append,#[y,z],#[t',t']⟩,type,pos,after,guard⟩:Oper).op≠.defer c)/\ED E J site ⟨dst,.call ⟨.builtin .append,#[y,z],#[t',t']⟩,type,pos,after,guard⟩ f m v (kf (sp.info site).1 f) (BN wr (km (sp.info site).1 m)) (sp.info site).2:=by
      intro new src rd sM IW;subst sM;simp only[xsp]at h;split at h
      .rename_i bG;have hw:(Y,id)∈(Sp.info site (.app id s et es new src rd)).2:=by cases src<;>simp[Sp.info]
       have hkm:BN [(id,.nest s et (es++new))] (km (Sp.info site (.app id s et es new src rd)).1 m)=aO (bO (b9 id (kmS src m)) id) id (.nest s et (es++new)):=by cases src<;>rfl
       have hkf:kf (Sp.info site (.app id s et es new src rd)).1 f=ga id (kfS src f):=by cases src<;>rfl
       refine⟨_,_,h,λq hq=>av,λq hq=>?_,λf2 m2 R' k'=>by simp only[xsp];rw[BY bG],ae,⟨λh=>(nomatch h),λ_ h=>absurd (h (Y,id) hw) ae,λw0 μ φ ac w K Q hR hK=>?_⟩⟩
       .cases src<;>simp only[Sp.info,aye,aA0,or_false]at hq⊢
        .subst hq;simp
        grind
       .obtain⟨w',y',φ',u1,u2,u3,u4⟩:=aeM (ty:=type) hu hm h2 h4 h5 h6 bG IW hR.toaR hR.nS (by have:=(aL hR y).1;rw[hy]at this;exact this) (by have:=(aL hR z).1;rw[hz]at this;exact this);exact iK (y:=y') (w':=w') (by simp[execOp,resolve,invoke,builtin,u1]) (hK y' w' μ φ' (by rw[hkm];omega) (by rw[hkm,hkf];omega) u4 λj hj=>by have hj:=T0 hj;subst hj;simp[BN])
      .cases h
     split at hs
     .rename_i BE;split at hs
      .rename_i s' R8 new hm';split at hs
       next Tc=>simp only[T1,tb]at Tc;obtain⟨⟨c1,c2⟩,c3⟩:=Tc;have c1:=T0 c1;subst c1;subst c2;simp only[tc]at hs;exact main new (U BE) [] hs.symm (.inl ⟨BE,rfl,λe=>av,rfl,hm'⟩)
       .cases hs
      grind
     grind
    .cases hs
   .cases hs
  .cases hs
 case mapUpdate t x key v=>
  simp only at hs;split at hs
  .rename_i kt et id id2 hu hx hv;split at hs
   .rename_i Gh e es s e' rs kp h1 h2 hk;split at hs
    next pn=>simp only[tc]at hs;subst hs;simp only[T1,tb]at pn;obtain⟨⟨hkt,hee⟩,_⟩:=pn;subst hkt;subst hee;refine⟨_,_,h,pw,pw,λf2 m2 R' k'=>rfl,ae,⟨λh=>(nomatch h),λh _=>by(simp[gZ]at h),λw0 μ φ ac w K Q hR hK=>?_⟩⟩;obtain⟨w',φ',u1,u2,u3⟩:=aeL hu h1 h2 hk hR.toaR hR.nS (by have:=(aL hR x).1;rw[hx]at this;exact this) (aL hR key).1 (by have:=(aL hR v).1;rw[hv]at this;exact this);exact GF (by simp[execOp,u1]) (hK undef w' μ φ' u2 u3 .top ae)
    .cases hs
   .cases hs
  .cases hs
 all_goals (cases hs)
def U8(hE:mn E){draw:Bool}{f:Fr}{m:Mem}{r:R}(h:WU E draw site o f m k=U r):(∃v f' m' ft,k v f' m' ft=U r/\ED E draw site o f m v f' m' ft)\/(draw=J/\P9 E o f m k r):=by
 unfold WU at h;split at h
 .rename_i sp sM;cases draw with
  |true=>cases sM
  |false=>simp only[cond]at sM;grind [aaG]
 .exact akY hE h
def Mu{draw:Bool}{f:Fr}{m:Mem}{r:R}(h:WU E draw site o f m k=U r):∀c,o.op≠.defer c:=by
 unfold WU at h;split at h
 .rename_i sp sM;cases draw with
  |true=>cases sM
  |false=>simp only[cond]at sM;grind [aaG]
 .exact aaF h
end
end Go.Ab
namespace Go.Ab
open Go.RowKit (Below)
def El(f F:Fr):Prop:=∀t,f t=F t\/f t=.top
theorem El.refl(f:Fr):El f f:=λ_=>.inl rfl
theorem El.put{f F:Fr}(h:El f F)(d:Option Nat)(v:V):El (kV f d v) (kV F d v):=by
 intro t;cases d with
 |none=>exact h t
 |some d=>
  simp only[kV,jC];cases Nat.beq t d
  .exact h t
  simp
theorem eL{f:Fr}{d:Option Nat}{v:V}{t:Nat}(h:d≠U t):kV f d v t=f t:=by
 cases d with
 |none=>rfl
 |some d=>exact zV (λe=>h (by rw[e]))
theorem k8{f:Fr}{v:V}{t:Nat}:kV f (U t) v t=v:=by simp[kV,jC,Nat.beq_refl]
section
variable {E:Env} {ops:Array Oper} {w0:bI}
variable{nt:Nat}{μ:Ro}{φ:Nat->aT}{f:Fr}{m:Mem}{a:Act}
theorem Rel.weaken{f':Fr}{w:World}(h:Rel E.P E.aQ nt w0 μ φ f m a w)(hf:El f' f):Rel E.P E.aQ nt w0 μ φ f' m a w:=
 {h with
  fr:=λt=>by
   rcases hf t with e|e
   .rw[e];exact h.fr t
   .rw[e];exact .top,
  live:=λt id hid=>by
   rcases hf t with e|e
   .rw[e]at hid;exact h.live t id hid
   simp_all}
variable{t:Nat}
theorem Qa{d:Nat}{y:Value}(hd:d<a.tmps.size):(a.put (U d) y).tmps.getD t undef=if t=d then y else a.tmps.getD t undef:=by simp only[Act.put,awW,ayw];grind
theorem Rel.put{nt:Nat}{μ μ':Ro}{φ φ':Nat->aT}{f f':Fr}{m m':Mem}{a:Act}{w w':World}(h:Rel E.P E.aQ nt w0 μ φ f m a w)(hle:XF μ μ'){dst:Option Nat}{v:V}{y:Value}(hd:∀d,dst=U d->d<nt)(hM:aR E.P E.aQ w0 μ' φ' m' w')(hF:cR E.P μ' φ' m' f' (cE nt w0 a))(hv:az E.P μ' φ' v y)(hl:∀id,v.has id=Y->(m' id).isSome=Y):Rel E.P E.aQ nt w0 μ' φ' (kV f' dst v) m' (a.put dst y) w':=by
 refine{toaR:=hM,size:=?_,defers:=?_,ow:=h.ow,fr:=λt=>?_,live:=λt id hid=>?_}
 .cases dst<;>simp[Act.put,h.size]
 .cases dst<;>exact h.defers.mono hle
 .cases dst with
  |none=>exact hF.fr t
  |some d=>
   have bX:d<a.tmps.size:=by rw[h.size];exact hd d rfl
   have hf:=hF.fr t;by_cases e:t=d
   .subst e;rw[wW (hd t rfl),Qa bX,BY rfl,k8];omega
   .rw[eL ao];unfold cE at hf⊢;split
    next ht=>rw[BY ht]at hf;rw[Qa bX,IT e];omega
    simp_all
 .by_cases e:dst=U t
  .grind [k8,id]
  .rw[eL e]at hid;exact hF.live t id hid
theorem ak0(h:t<E.fn.ntmps):cd E f (.tmp t)=f t:=by simp only[cd];rw[show Nat.blt t E.fn.ntmps=Y by rw[azt];omega];rfl
theorem Qb{p:PV}(h:cd E f (.tmp t)=.pv p):t<E.fn.ntmps/\f t=.pv p:=agZ
theorem ahv{F:Fr}(h:El f F)(q:Operand):cd E f q=cd E F q\/cd E f q=.top:=by
 cases q with
 |tmp t=>
  simp only[cd];cases Nat.blt t E.fn.ntmps with
  |true=>exact h t
  |false=>simp
 |_=>exact .inl rfl
def Ah(nt:Nat)(ops:Array Oper)(A:List (Nat×Bool))(f:Fr):Prop:=∀g∈A,∃t,(ops[g.1]?).bind (·.dst)=U t/\t<nt/\f t=.pv (.bool g.2)
def KX(ops:Array Oper)(A:List (Nat×Bool))(a:Act):Prop:=∀g∈A,∃t,(ops[g.1]?).bind (·.dst)=U t/\a.tmps.getD t undef=.bool g.2
def anW(ops:Array Oper)(A:List (Nat×Bool))(l:List (Nat×Oper)):Prop:=∀x∈l,∀g∈A,∀t,(ops[g.1]?).bind (·.dst)=U t->x.2.dst≠U t
variable{d:Option Nat}{A:List (Nat×Bool)}
theorem Ah.put(h:Ah nt ops A f){v:V}(hd:∀g∈A,∀t,(ops[g.1]?).bind (·.dst)=U t->d≠U t):Ah nt ops A (kV f d v):=by intro g hg;have⟨t,h1,h0,h2⟩:=h g hg;grind [eL]
variable{o:Oper}
theorem jJ(h:FQ E o=Y):∀d,o.dst=U d->d<E.fn.ntmps:=by grind [FQ,Nat.blt_eq]
variable{b:Bool}
theorem EF{j:Nat}(h:(ops[j]?).bind (·.dst)=U t)(hb:a.tmps.getD t undef=.bool b):yielded ops a.tmps j=U b:=by
 simp only[yielded,h,ayg];have:a.tmps[t]?=U (.bool b):=by rw[awW]at hb;grind [undef]
 rw[this]
theorem Mv(ho:guardOf o A=Z)(hA:KX ops A a):Region.wanted o (yielded ops a.tmps)=true:=by
 unfold guardOf at ho;unfold Region.wanted;split at ho
 next hg=>simp[hg]
 .rename_i g hg;split at ho
  next bt=>obtain⟨t,h1,h2⟩:=hA g (by simpa using bt);simp_all[EF]
  .cases ho
theorem KX.put(h:KX ops A a){y:Value}(hs:∀t,d=U t->t<a.tmps.size)(hd:∀g∈A,∀t,(ops[g.1]?).bind (·.dst)=U t->d≠U t):KX ops A (a.put d y):=by
 intro g hg;have⟨t,h1,h2⟩:=h g hg;refine⟨t,h1,?_⟩;cases d with
 |none=>exact h2
 |some d=>rw[Qa (hs d rfl),IT λe=>hd g hg t h1 (by rw[e])];omega
def aeP(ops:Array Oper)(f:Fr)(o:Oper):Prop:=∃g,o.guard=U g/\∀t,(ops[g.1]?).bind (·.dst)=U t->f t=.b8 []\/f t=.pv (.bool (!g.2))
theorem aeQ{P:Program}{x:Value}(h:az P μ φ (.b8 []) x):x=undef:=by
 cases h with
 | @b8 _ xs h1 _=>have:xs= #[]:=aAs (by simpa using h1.symm);subst this;rfl
theorem Qc{P:Program}:az P μ φ (.b8 []) undef:=.b8 rfl ae
theorem Jj{w:World}(h:Rel E.P E.aQ nt w0 μ φ f m a w)(hd:aeP ops f o):Region.wanted o (yielded ops a.tmps)=false:=by
 obtain⟨g,hg,ht⟩:=hd;simp only[Region.wanted,hg];cases hs:(ops[g.1]?).bind (·.dst)with
 |none=>simp[yielded,hs]
 |some t=>
  have hy:nt<=t->yielded ops a.tmps g.1=none:=λhle=>by simp only[yielded,hs,ayg];rw[aA1 (by rw[h.size];omega)]
  by_cases L4:nt<=t
  .rw[hy L4];rfl
  have bX:t<nt:=Nat.lt_of_not_le L4;have h3:=h.fr t;rw[wW bX]at h3;rcases ht t hs with e|e
  .rw[e]at h3;have h4:=aeQ h3;have:yielded ops a.tmps g.1=none:=by
    simp only[yielded,hs,ayg];rw[awW]at h4;cases e:a.tmps[t]? with
    |none=>rfl
    |some x=>rw[e]at h4;simp only[ayy]at h4;subst h4;rfl
   rw[this];rfl
  .rw[e]at h3;rw[EF hs (Af h3)];simp
theorem EG{t:Nat}:∀{l:List (Nat×Oper)}{f:Fr},(∀x∈l,x.2.dst≠U t)->lS f l t=f t
 |[],_,_=>rfl
 |x::r,f,h=>by rw[lS,EG (λy hy=>h y (by simp[hy])),eL (h x ae)]
theorem k9{t:Nat}:∀{l:List (Nat×Oper)}{f:Fr},(∀x∈l,x.2.dst≠U t)->cN f l t=f t
 |[],_,_=>rfl
 |x::r,f,h=>by rw[cN,k9 (λy hy=>h y (by simp[hy])),eL (h x ae)]
theorem rY{t:Nat}:∀{l:List (Nat×Oper)}{f:Fr},(f t=.top\/∃x∈l,x.2.dst=U t)->cN f l t=.top
 |[],_,h=>by
  rcases h with h|⟨x,hx,_⟩
  .exact h
  .cases hx
 |x::r,f,h=>by
  rw[cN];by_cases e:x.2.dst=U t
  .simp_all[rY,k8]
  .refine rY ?_;rcases h with h|⟨y,hy,hd⟩
   .simp_all[eL]
   grind
theorem Ix{l:List (Nat×Oper)}{F:Fr}(h:∀t,(∀x∈l,x.2.dst≠U t)->f t=F t\/f t=.top):El (cN f l) F:=by intro t;grind [rY,k9]
theorem KY{g:Nat×Bool}{tj:Nat}(hj:(ops[g.1]?).bind (·.dst)=U tj):∀{l:List (Nat×Oper)}{done:List Nat}{f:Fr},Gq g done l=Y->(∀x∈l,ops[x.1]?=U x.2)->(∀x∈l,x.2.dst≠U tj)->f tj=.pv (.bool (!g.2))->(∀j∈done,∀t,(ops[j]?).bind (·.dst)=U t->f t=.b8 [])->∀(pre post:List (Nat×Oper))(x:Nat×Oper),l=pre++x::post->aeP ops (lS f pre) x.2
 |[],_,_,_,_,_,_,_,pre,post,x,h=>by simp at h
 |y::r,done,f,hg,hl,hd,hb,hdn,pre,post,x,h=>by
  simp only[Gq,T1]at hg;cases pre with
  |nil=>
   simp only[azg,ayW]at h;obtain⟨rfl,rfl⟩:=h;rw[lS];have h1:=hg.1;split at h1
   .rename_i hh hgd;refine⟨hh,hgd,λt ht=>?_⟩;rcases Bool.or_eq_true_iff.1 h1 with h2|h2
    .simp_all
    grind
   .cases h1
  |cons z pre=>
   simp only[azu,ayW]at h;obtain⟨rfl,h⟩:=h;rw[lS];refine KY hj hg.2 (λx hx=>hl x (by simp[hx])) (λx hx=>hd x (by simp[hx])) (by simp_all[eL]) (λj hjm t ht=>?_) pre post x h;by_cases e:y.2.dst=U t
   .rw[e,k8]
   .rw[eL e];grind
theorem Qd{A:List (Nat×Bool)}:∀{l a b:List (Nat×Oper)},Nz A l=(a,b)->l=a++b
 |[],a,b,h=>by simp[Nz]at h;simp_all
 |x::r,a,b,h=>by
  simp only[Nz]at h;split at h
  .cases hs:Nz A r with
   |mk a' b'=>rw[hs]at h;simp only[aq4]at h;obtain⟨rfl,rfl⟩:=h;rw[Qd hs];rfl
  simp_all
theorem KZ{v:V}(h:I6 v=U b):v=.pv (.bool b):=by unfold I6 at h;grind
theorem amQ(hE:mn E){site:Nat}{draw:Bool}{v:V}{f':Fr}{m':Mem}{ft:bS}(hn:draw=Y\/∃c x y,o.op=.pick c x y)(h:∀(R':Type)(k':V->Fr->Mem->bS->Option R'),WU E draw site o f m k'=k' v f' m' ft):ED E draw site o f m v f' m' ft:=by
 have hx:=U8 hE (h (V×Fr×Mem×bS) λv f m ft=>U (v,f,m,ft));rcases hx with⟨v1,f1,m1,ft1,h1,h2⟩|⟨h1,h2,_⟩
 rotate_left
 .simp_all
 simp_all
theorem XG{R:Type}{site:Nat}{draw:Bool}{p:Oper}{c:Nat}{x y:Operand}{k:V->Fr->Mem->bS->Option R}(hp:p.op=.pick (.tmp c) x y)(hb:cd E f (.tmp c)=.pv (.bool b)):WU E draw site p f m k=k (cd E f (if b then x else y)) f m []:=by
 have sM:Jy E site p f m=none:=by simp only[Jy,hp]
 unfold WU;rw[sM];have e:(bif draw then Z else bif E.Ma site then(Z:Option Sp)else Z)=none:=ae
 rw[e];simp only[cT,hp,hb];cases b<;>rfl
end
section
variable {E:Env} {ops:Array Oper} {w0:bI}
theorem GG{rd:Option Nat}{Q:Exit->Act->World->Prop}{tail:List Nat}:∀(l:List (Nat×Oper))(f:Fr),(∀x∈l,ops[x.1]?=U x.2)->(∀x∈l,FQ E x.2=Y)->(∀(pre post:List (Nat×Oper))(x:Nat×Oper),l=pre++x::post->aeP ops (lS f pre) x.2)->∀{μ:Ro}{φ:Nat->aT}{m:Mem}{a:Act}{w:World},Rel E.P E.aQ E.fn.ntmps w0 μ φ f m a w->∀(A:List (Nat×Bool)),KX ops A a->anW ops A l->(∀a',Rel E.P E.aQ E.fn.ntmps w0 μ φ (lS f l) m a' w->KX ops A a'->wpOpsIn (FR rd) 0 E.P ops Q tail a' w)->wpOpsIn (FR rd) 0 E.P ops Q (l.map (·.1)++tail) a w
 |[],f,_,_,_,_,_,_,a,_,hR,_,hA,_,hK=>hK a hR hA
 |x::r,f,hl,hd,K0,μ,φ,m,a,w,hR,A,hA,Qe,hK=>by simp only[ayb,azu,wpOpsIn];rw[hl x ae];simp only;rw[Jj hR (K0 [] r x rfl)];simp only[AI,OF];refine And.intro (λ_ _=>trivial) (GG r (kV f x.2.dst (.b8 [])) (λy hy=>hl y (by simp[hy])) (λy hy=>hd y (by simp[hy])) (λpre post y h=>?_) (hR.put (λ_ _ h=>h) (jJ (hd x ae)) hR.toaR hR.nS Qc (λid hid=>by simp[V.has,cX]at hid)) A (hA.put (λt ht=>by rw[hR.size];exact jJ (hd x ae) t ht) λg yQ t ht=>Qe x ae g yQ t ht) (λy hy=>Qe y (by simp[hy])) hK);have:=K0 (x::pre) post y (by rw[h];rfl);rwa[lS]at this
theorem JP:∀{ft:bS},KI ft=Y->∀x∈ft,x.1=J
 |[],_,x,hx=>by cases hx
 |(w,id)::r,h,x,hx=>by
  simp only[KI,T1,ayx]at h;rcases aye.1 hx with rfl|hx
  .exact h.1
  .exact JP h.2 x hx
theorem lM(hE:mn E){rd:Option Nat}(hY:yZ E.P E.aQ E.fn.ntmps E.yl w0):∀(fuel:Nat){mode:Nat}(rZ:mode=0\/mode=3){R:Type}{A:List (Nat×Bool)}{l:List (Nat×Oper)}{f:Fr}{m:Mem}{lg:Log}{k:Fr->Mem->Option R}{r:R},dt E ops mode fuel R A l f m lg k=U r->(∀x∈l,ops[x.1]?=U x.2)->anW ops A l->(mode=3->∀x∈l,gZ x.2=Y)->∀(μ:Ro)(φ:Nat->aT)(a:Act)(w:World)(Q:Exit->Act->World->Prop)(tail:List Nat),Rel E.P E.aQ E.fn.ntmps w0 μ φ f m a w->KX ops A a->(∀(f':Fr)(m':Mem)(μ':Ro)(φ':Nat->aT)(a':Act)(w':World),k f' m'=U r->Rel E.P E.aQ E.fn.ntmps w0 μ' φ' f' m' a' w'->KX ops A a'->(mode=3->m'=m/\∀t,(∀x∈l,x.2.dst≠U t)->f' t=f t)->wpOpsIn (FR rd) 0 E.P ops Q tail a' w')->wpOpsIn (FR rd) 0 E.P ops Q (l.map (·.1)++tail) a w
 |0,_,_,_,_,_,_,_,_,_,_,h,_,_,_,_,_,_,_,_,_,_,_,_=>by simp[dt]at h
 |fuel+1,mode,rZ,R,A,[],f,m,lg,k,r,h,_,_,_,μ,φ,a,w,Q,tail,hR,hA,hK=>by simp only[dt]at h;grind
 |fuel+1,mode,rZ,R,A,(i,o)::rest,f,m,lg,k,r,h,hl,Qe,hrk,μ,φ,a,w,Q,tail,hR,hA,hK=>by
  simp only[dt]at h;split at h
  .rename_i hg;split at h
   .rename_i hd;have hmm:Nat.beq mode 2=false:=by rcases rZ with rfl|rfl<;>rfl
    simp only[hmm,cond_false]at h;rw[<-hmm]at h;have hdf:=Mu h;rcases U8 hE h with⟨v,f1,m1,ft,hk,TA⟩|⟨_,nJ⟩
    rotate_left
    .simp only[ayb,azu,wpOpsIn];rw[hl (i,o) ae];simp only;rw[Mv hg hA,BY rfl];refine P9.JO nJ rd w0 μ φ a w _ Q hY hR λv f1 m1 y w' μ' φ' hk hle hM hF hv UT=>?_;have dC:Nat.beq mode 2=false:=aa
     rw[dC]at hk;simp only[AI,OF]at hk;rcases rZ with rfl|rfl
     .simp only[Nat.beq,By]at hk;exact lM hE hY fuel (.inl rfl) hk (λx hx=>hl x (by simp[hx])) (λx hx=>Qe x (by simp[hx])) (λhm x hx=>hrk hm x aa) _ _ _ _ Q tail (hR.put hle (jJ hd) hM hF hv UT) (hA.put (λt ht=>by rw[hR.size];exact jJ hd t ht) λg yQ t ht=>Qe (i,o) ae g yQ t ht) λf' m' μ2 φ2 a' w2 mq mo JF xN=>hK f' m' μ2 φ2 a' w2 mq mo JF λh=>aa
     .simp[Nat.beq,KI]at hk
    have dC:Nat.beq mode 2=false:=aa
    rw[dC]at hk;simp only[AI,OF]at hk;have hq:(mode=3->f1=f/\m1=m)/\dt E ops mode fuel R A rest (kV f1 o.dst v) m1 lg k=U r:=by
     rcases rZ with rfl|rfl
     .simp_all
     .simp only[Nat.beq,AI,OF]at hk;split at hk
      next hqf=>exact⟨λh=>TA.same (hrk rfl (i,o) ae) (JP hqf),hk⟩
      .cases hk
    obtain⟨amR,hk⟩:=hq;simp only[ayb,azu,wpOpsIn];rw[hl (i,o) ae];simp only;rw[Mv hg hA,BY rfl];refine TA.JO hdf rd w0 μ φ a w _ Q hR λy w' μ' φ' hle hM hF hv UT=>?_;refine lM hE hY fuel rZ hk (λx hx=>hl x (by simp[hx])) (λx hx=>Qe x (by simp[hx])) (λhm x hx=>hrk hm x (by simp[hx])) _ _ _ _ Q tail (hR.put hle (jJ hd) hM hF hv UT) (hA.put (λt ht=>by rw[hR.size];exact jJ hd t ht) λg yQ t ht=>Qe (i,o) ae g yQ t ht) λf' m' μ2 φ2 a' w2 mq mo JF xN=>?_;refine hK f' m' μ2 φ2 a' w2 mq mo JF λhm3=>?_;have⟨e1,e2⟩:=amR hm3;have⟨e3,e4⟩:=xN hm3;refine⟨by rw[e3,e2],λt ht=>?_⟩;rw[e4 t λx hx=>ht x (by simp[hx]),eL (ht (i,o) ae),e1]
   .cases h
  .rename_i j OJ hg;split at h
   .rename_i tj htj;split at h
    .rename_i b hb;have avV:tj<E.fn.ntmps:=agZ
     have hbf:f tj=.pv (.bool b):=agZ
     have hba:a.tmps.getD tj undef=.bool b:=by have:=(aL hR (.tmp tj)).1;rw[hb]at this;exact Af this
     generalize sM:Nz A ((i,o)::rest)=sp at h;obtain⟨body,Xi⟩:=sp;have sP:=Qd sM;simp only at h;split at h
     .rename_i amS;split at h
      .rename_i hc;simp only[T1,ayK,ayx,aAg,aBg]at hc amS;obtain⟨⟨FT,hgi⟩,arR⟩:=hc;have hm0:mode=0:=T0 amS.1;subst hm0;have bt:∀z∈body,z∈(i,o)::rest:=λz hz=>by rw[sP];simp[hz]
       have Jk:∀z∈Xi,z∈(i,o)::rest:=λz hz=>by rw[sP];simp[hz]
       by_cases hbp:b=OJ
       .have:agS OJ b=true:=by subst hbp;cases b<;>rfl
        rw[this]at h;simp only[cond]at h;have hfs:jC f tj (.pv (.bool OJ))=f:=funext λt=>by
         unfold jC;cases e:Nat.beq t tj with
         |false=>rfl
         |true=>simp_all
        rw[hfs]at h;refine lM hE hY fuel rZ h hl (λz hz g yQ t ht=>?_) (λh=>aa) _ _ _ _ Q tail hR (λg yQ=>?_) λf' m' μ2 φ2 a' w2 mq mo JF xN=>hK f' m' μ2 φ2 a' w2 mq mo (λg yQ=>JF g (by simp[yQ])) λh=>aa
        .rcases aye.1 yQ with rfl|yQ
         .grind
         .exact Qe z hz g yQ t ht
        .rcases aye.1 yQ with rfl|yQ
         .simp_all
         .exact hA g yQ
       .have:agS OJ b=false:=by cases b<;>cases OJ<;>first|rfl|exact absurd rfl hbp
        rw[this]at h;simp only[cond]at h;have hbn:b= !OJ:=by cases b<;>cases OJ<;>simp_all
        have hfs:jC f tj (.pv (.bool !OJ))=f:=funext λt=>by
         unfold jC;cases e:Nat.beq t tj with
         |false=>rfl
         |true=>simp_all
        rw[hfs]at h;rw[sP,aya,ayt];refine GG body f (λz hz=>hl z (bt z hz)) FT (KY htj hgi (λz hz=>hl z (bt z hz)) (λz hz=>arR z (bt z hz)) (by rw[hbf,hbn]) ae) hR A hA (λz hz g yQ t ht=>Qe z (bt z hz) g yQ t ht) λa' mo JF=>?_
        .refine lM hE hY fuel rZ h (λz hz=>hl z (Jk z hz)) (λz hz=>Qe z (Jk z hz)) (λh=>aa) _ _ _ _ Q tail mo JF λf' m' μ2 φ2 a' w2 mq mo JF xN=>hK f' m' μ2 φ2 a' w2 mq mo JF λh=>aa
      .cases h
     .split at h
      .rename_i ip p sG;split at h
       .rename_i c x y ahw;split at h
        .rename_i hc;simp only[T1,ayK,ayx,aAg,aBg]at hc;obtain⟨⟨⟨⟨⟨⟨aaH,hpg⟩,TB⟩,hgi⟩,_⟩,hpd⟩,_⟩:=hc;have aaH:=T0 aaH;subst aaH;have hpg:guardOf p A=none:=by simpa using hpg
         have⟨rb,hrb,h⟩:=IS.1 h;have bt:∀z∈body,z∈(i,o)::rest:=λz hz=>by rw[sP];simp[hz]
         have Jk:∀z∈sG,z∈(i,o)::rest:=λz hz=>by rw[sP];simp[hz]
         have acZ:(ip,p)∈(i,o)::rest:=by rw[sP];simp
         rw[sP,aya,ayt];have after:∀(f1:Fr)(μ1:Ro)(φ1:Nat->aT)(a1:Act)(w1:World)(q:Operand),Rel E.P E.aQ E.fn.ntmps w0 μ1 φ1 f1 m a1 w1->KX ops A a1->(∀t,(∀z∈body,z.2.dst≠U t)->f1 t=f t)->cd E f1 q=.pv (.bool rb)->(q=if b then x else y)->wpOpsIn (FR rd) 0 E.P ops Q (((ip,p)::sG).map (·.1)++tail) a1 w1:=by
          intro f1 μ1 φ1 a1 w1 q L5 hA1 W4 hq hqe;have WZ:cd E f1 (.tmp c)=.pv (.bool b):=agZ
          simp only[ayb,azu,wpOpsIn];rw[hl (ip,p) acZ];simp only;rw[Mv hpg hA1,BY rfl];have TA:ED E (Nat.beq mode 1||Nat.beq mode 2) (dm E p.dst) p f1 m (.pv (.bool rb)) f1 m []:=amQ hE (.inr ⟨_,_,_,ahw⟩) λR' k'=>by rw[XG ahw WZ,<-hqe,hq]
          refine TA.JO (λc h=>by rw[ahw]at h;cases h) rd w0 μ1 φ1 a1 w1 _ Q L5 λz w' μ' φ' xN hM hF hv UT=>?_;have hle:El (kV (cN f body) p.dst (.pv (.bool rb))) (kV f1 p.dst (.pv (.bool rb))):=El.put (Ix λt ht=>.inl (W4 t ht).symm) _ _;refine lM hE hY fuel rZ h (λz hz=>hl z (Jk z hz)) (λz hz=>Qe z (Jk z hz)) (λhm z hz=>hrk hm z (Jk z hz)) _ _ _ _ Q tail ((L5.put xN (jJ hpd) hM hF hv UT).weaken hle) (hA1.put (λt ht=>by rw[L5.size];exact jJ hpd t ht) λg yQ t ht=>Qe (ip,p) acZ g yQ t ht) λf' m' μ2 φ2 a' w2 mq mo JF xN=>?_;grind [eL,k9]
         have go:∀q,b=OJ->(q=if b then x else y)->dt E ops 3 fuel Bool ((j,OJ)::A) body f m lg (λf _=>I6 (cd E f q))=U rb->wpOpsIn (FR rd) 0 E.P ops Q (body.map (·.1)++(((ip,p)::sG).map (·.1)++tail)) a w:=by
          intro q hbp hq hev;refine lM hE hY fuel (.inr rfl) hev (λz hz=>hl z (bt z hz)) ?_ (λ_ z hz=>(TB z hz).1.1) _ _ _ _ Q _ hR ?_ λf' m' μ2 φ2 a' w2 mq mo JF xN=>?_
          .intro z hz g yQ t ht;rcases aye.1 yQ with rfl|yQ
           .grind
           .exact Qe z (bt z hz) g yQ t ht
          .intro g yQ;rcases aye.1 yQ with rfl|yQ
           .simp_all
           .exact hA g yQ
          .obtain⟨e1,e2⟩:=xN rfl;subst e1;exact after f' μ2 φ2 a' w2 q mo (λg yQ=>JF g (by simp[yQ])) e2 (KZ mq) hq
         have no:∀q,b= !OJ->(q=if b then x else y)->I6 (cd E (cN f body) q)=U rb->wpOpsIn (FR rd) 0 E.P ops Q (body.map (·.1)++(((ip,p)::sG).map (·.1)++tail)) a w:=by
          intro q hbp hq hev;refine GG body f (λz hz=>hl z (bt z hz)) (λz hz=>(TB z hz).1.2) (KY htj hgi (λz hz=>hl z (bt z hz)) (λz hz=>(TB z hz).2) (by rw[hbf,hbp]) ae) hR A hA (λz hz g yQ t ht=>Qe z (bt z hz) g yQ t ht) λa' mo JF=>?_;refine after _ μ φ a' w q mo JF (λt ht=>EG ht) ?_ hq;have hv:=KZ hev;cases q with
          |tmp t=>
           simp only[cd]at hv⊢;have hle:El (cN f body) (lS f body):=Ix λt ht=>.inl (EG ht).symm;cases e:Nat.blt t E.fn.ntmps with
           |false=>rw[e]at hv;cases hv
           |true=>
            rw[e]at hv;simp only[cond]at hv⊢;rcases hle t with e|e
            .rw[<-e];omega
            simp_all
          |_=>exact hv
         have hbm:(bif Nat.beq mode 0 then 3 else mode)=3:=by rcases rZ with rfl|rfl<;>rfl
         grind
        .cases h
       .cases h
      .cases h
    .cases h
   .cases h
end
structure Rec where
 i:Nat
 o:Oper
 v:V
 wr:List (Nat×cS)
 ft:bS
 kl:Kl
def Rec.fs(r:Rec)(f:Fr):Fr:=kV (kf r.kl f) r.o.dst r.v
def Rec.ms(r:Rec)(m:Mem):Mem:=BN r.wr (km r.kl m)
def Rec.TC(r:Rec)(id:Nat):Prop:=∃b,(b,id)∈r.kl
def lf(f:Fr):List Rec->Fr
 |[]=>f
 |r::l=>lf (r.fs f) l
def sQ(m:Mem):List Rec->Mem
 |[]=>m
 |r::l=>sQ (r.ms m) l
def gI(S:Nat->Bool)(f:Fr):List Rec->Fr
 |[]=>f
 |r::l=>gI S (bif S r.i then r.fs f else f) l
def iL(S:Nat->Bool)(m:Mem):List Rec->Mem
 |[]=>m
 |r::l=>iL S (bif S r.i then r.ms m else m) l
theorem U9:∀{wr:List (Nat×cS)}{m:Mem}{j:Nat},(∀b,(j,b)∉wr)->BN wr m j=m j
 |[],_,_,_=>rfl
 |(id,b)::r,m,j,h=>by rw[BN,U9 λb' hb=>h b' (by simp[hb])];exact aN λe=>h b (by simp[e])
theorem ahx:∀{wr:List (Nat×cS)}{j:Nat},(∃b,(j,b)∈wr)->∃b',(j,b')∈wr/\∀m:Mem,BN wr m j=U b'
 |[],_,h=>av
 |(id,b)::r,j,h=>by
  by_cases hr:∃b,(j,b)∈r
  .obtain⟨b',h1,h2⟩:=ahx hr;exact⟨b',by simp[h1],λm=>h2 _⟩
  .obtain⟨b0,hb⟩:=h;rcases aye.1 hb with hb|hb
   .simp only[aq4]at hb;obtain⟨rfl,rfl⟩:=hb;simp_all[BN,U9]
   simp_all
mutual
theorem XH{id:Nat}:∀{v:V},v.F8 id=Y->v.has id=Y
 |.agg cs,h=>EH (cs:=cs) (by simpa[V.F8]using h)
 |.b8 cs,h=>EH (cs:=cs) (by simpa[V.F8]using h)
 |.fn _ cs,h=>EH (cs:=cs) (by simpa[V.F8]using h)
 |.Gm _ _ _,h=>h
 |.KB _ _ _ _ _ _,h=>h
 |.pv _,h=>by cases h
 |.il,h=>by cases h
 |.op _ _,h=>by cases h
 |.oe _ _ _,h=>by cases h
 |.os _,h=>by cases h
 |.iJ _ _ _,h=>by cases h
 |.om _,h=>by cases h
 |.yl _,h=>by cases h
 |.it _,h=>by cases h
 |.top,h=>by cases h
theorem EH{id:Nat}:∀{cs:List V},KD id cs=Y->cX id cs=Y
 |[],h=>by cases h
 |c::r,h=>by
  simp only[KD,ayj]at h;simp only[cX,ayj];rcases h with h|h
  .exact .inl (XH h)
  .exact .inr (EH h)
end
variable{id:Nat}
theorem NX{v:V}(h:v.has id=J):zN id v=v:=by unfold zN;rw[h];rfl
theorem NY{id:Nat}:∀{cs:List V},cX id cs=J->cs.map (zN id)=cs
 |[],_=>rfl
 |c::r,h=>by simp only[cX,ayp]at h;simp only[ayb,NX h.1,NY h.2]
theorem XI{b:cS}(h:b.names id=J):jD id b=b:=by
 cases b with
 |box cs=>simp only[jD,NY (show cX id cs=J from h)]
 |_=>rfl
theorem K1{v:V}(h:v.has id=J):sF id v=v:=by
 unfold sF;cases h2:v.F8 id with
 |false=>rfl
 |true=>rw[XH h2]at h;cases h
theorem K2{id:Nat}:∀{cs:List V},cX id cs=J->cs.map (sF id)=cs
 |[],_=>rfl
 |c::r,h=>by simp only[cX,ayp]at h;simp only[ayb,K1 h.1,K2 h.2]
theorem Va{b:cS}(h:b.names id=J):eZ id b=b:=by
 cases b with
 |box cs=>simp only[eZ,K2 (show cX id cs=J from h)]
 |_=>rfl
theorem Qf:∀{kl:Kl}{f:Fr}{t:Nat},(∀id,(∃b,(b,id)∈kl)->(f t).has id=J)->kf kl f t=f t
 |[],_,_,_=>rfl
 |(Y,id)::r,f,t,h=>by have h0:ga id f t=f t:=NX (h id ⟨Y,ae⟩);rw[kf,Qf (kl:=r) (f:=ga id f) λj hj=>by rw[h0];exact h j (let⟨b,hb⟩:=hj;⟨b,by simp[hb]⟩),h0]
 |(J,id)::r,f,t,h=>by have h0:jr id f t=f t:=K1 (h id ⟨J,ae⟩);rw[kf,Qf (kl:=r) (f:=jr id f) λj hj=>by rw[h0];exact h j (let⟨b,hb⟩:=hj;⟨b,by simp[hb]⟩),h0]
theorem K3:∀{kl:Kl}{f g:Fr}{t:Nat},f t=g t->kf kl f t=kf kl g t
 |[],_,_,_,h=>h
 |(Y,id)::r,f,g,t,h=>K3 (kl:=r) (f:=ga id f) (g:=ga id g) (by simp only[ga,h])
 |(J,id)::r,f,g,t,h=>K3 (kl:=r) (f:=jr id f) (g:=jr id g) (by simp only[jr,h])
theorem Qg:∀{kl:Kl}{m:Mem}{j:Nat},(∀id,(∃b,(b,id)∈kl)->j≠id/\∀b,m j=U b->b.names id=J)->km kl m j=m j
 |[],_,_,_=>rfl
 |(Y,id)::r,m,j,h=>by
  have⟨h1,h2⟩:=h id ⟨Y,ae⟩;have h0:bO (b9 id m) id j=m j:=by
   rw[jx h1];unfold b9;cases hm:m j with
   |none=>rfl
   |some b=>simp only[XI (h2 b hm)]
  rw[km,Qg (kl:=r) (m:=bO (b9 id m) id) λi hi=>by rw[h0];exact h i (let⟨b,hb⟩:=hi;⟨b,by simp[hb]⟩),h0]
 |(J,id)::r,m,j,h=>by
  have⟨h1,h2⟩:=h id ⟨J,ae⟩;have h0:gR id m j=m j:=by
   unfold gR;cases hm:m j with
   |none=>rfl
   |some b=>simp only[Va (h2 b hm)]
  rw[km,Qg (kl:=r) (m:=gR id m) λi hi=>by rw[h0];exact h i (let⟨b,hb⟩:=hi;⟨b,by simp[hb]⟩),h0]
theorem Qh:∀{kl:Kl}{m n:Mem}{j:Nat},m j=n j->km kl m j=km kl n j
 |[],_,_,_,h=>h
 |(Y,id)::r,m,n,j,h=>Qh (kl:=r) (m:=bO (b9 id m) id) (n:=bO (b9 id n) id) (by
  by_cases e:j=id
  .subst e;simp
  simp_all[jx,b9])
 |(J,id)::r,m,n,j,h=>Qh (kl:=r) (m:=gR id m) (n:=gR id n) (by simp only[gR,h])
variable{r:Rec}
theorem Rec.Qi{f:Fr}{t:Nat}(h:r.o.dst=U t):r.fs f t=r.v:=by unfold Rec.fs;rw[h,k8]
theorem Rec.ac0{f:Fr}{t:Nat}(h:r.o.dst≠U t)(hc:∀id,r.TC id->(f t).has id=J):r.fs f t=f t:=by unfold Rec.fs;rw[eL h];exact Qf hc
theorem Rec.Qj{f g:Fr}{t:Nat}(h:f t=g t):r.fs f t=r.fs g t:=by
 by_cases e:r.o.dst=U t
 .rw[Qi e,Qi e]
 .unfold Rec.fs;grind [eL,K3]
theorem Rec.amT{j:Nat}(h:∃b,(j,b)∈r.wr):∃b',(j,b')∈r.wr/\∀m,r.ms m j=U b':=let⟨b',h1,h2⟩:=ahx h;⟨b',h1,λm=>h2 _⟩
theorem Rec.ahy{m:Mem}{j:Nat}(h:∀b,(j,b)∉r.wr)(hc:∀id,r.TC id->j≠id/\∀b,m j=U b->b.names id=J):r.ms m j=m j:=by unfold Rec.ms;rw[U9 h];exact Qg hc
theorem Rec.Qk{m n:Mem}{j:Nat}(h:m j=n j):r.ms m j=r.ms n j:=by
 by_cases e:∃b,(j,b)∈r.wr
 .obtain⟨b,_,e⟩:=Rec.amT e;rw[e,e]
 .have e':∀b,(j,b)∉r.wr:=λb hb=>e ⟨b,hb⟩;unfold Rec.ms;grind [U9,Qh]
section
variable {S S':Nat->Bool}
theorem NZ{f:Fr}:∀{l l':List Rec},lf f (l++l')=lf (lf f l) l':=by
 intro l;induction l generalizing f with
 |nil=>intro l';rfl
 |cons r l ih=>intro l';exact ih
theorem XJ{m:Mem}:∀{l l':List Rec},sQ m (l++l')=sQ (sQ m l) l':=by
 intro l;induction l generalizing m with
 |nil=>intro l';rfl
 |cons r l ih=>intro l';exact ih
theorem BS{f:Fr}:∀{l l':List Rec},gI S f (l++l')=gI S (gI S f l) l':=by
 intro l;induction l generalizing f with
 |nil=>intro l';rfl
 |cons r l ih=>intro l';exact ih
theorem GH{m:Mem}:∀{l l':List Rec},iL S m (l++l')=iL S (iL S m l) l':=by
 intro l;induction l generalizing m with
 |nil=>intro l';rfl
 |cons r l ih=>intro l';exact ih
theorem TD{t:Nat}:∀{l:List Rec}{f:Fr},(∀q∈l,q.o.dst≠U t/\q.kl=[])->lf f l t=f t
 |[],_,_=>rfl
 |r::l,f,h=>by rw[lf,TD λq hq=>h q (by simp[hq])];have⟨h1,h2⟩:=h r ae;exact Rec.ac0 h1 λid⟨b,hid⟩=>by rw[h2]at hid;cases hid
theorem sd{t:Nat}:∀{l:List Rec}{f:Fr},(∀q∈l,S q.i=Y->q.o.dst≠U t/\∀id,q.TC id->(f t).has id=J)->gI S f l t=f t
 |[],_,_=>rfl
 |r::l,f,h=>by
  have h0:(bif S r.i then r.fs f else f) t=f t:=by
   cases e:S r.i with
   |false=>rfl
   |true=>simp_all[Rec.ac0]
  rw[gI,sd λq hq hs=>by rw[h0];exact h q (by simp[hq]) hs,h0]
theorem DF{t:Nat}:∀{l:List Rec}{f g:Fr},f t=g t->(∀q∈l,S q.i=J->q.o.dst≠U t/\q.kl=[])->gI S f l t=lf g l t
 |[],_,_,h,_=>h
 |r::l,f,g,h,hs=>by
  rw[gI,lf];refine DF ?_ λq hq=>hs q (by simp[hq]);cases e:S r.i with
  |true=>exact Rec.Qj h
  |false=>have⟨h1,h2⟩:=hs r ae e;rw[Rec.ac0 h1 λid⟨b,hid⟩=>by rw[h2]at hid;cases hid];exact h
theorem EI{t:Nat}:∀{l:List Rec}{f g:Fr},f t=g t->(∀q∈l,S q.i=S' q.i)->gI S f l t=gI S' g l t
 |[],_,_,h,_=>h
 |r::l,f,g,h,hs=>by
  rw[gI,gI];refine EI ?_ λq hq=>hs q (by simp[hq]);rw[hs r ae];cases S' r.i
  .exact h
  .exact Rec.Qj h
theorem vp{j:Nat}:∀{l:List Rec}{m:Mem},(∀q∈l,S q.i=Y->(∀b,(j,b)∉q.wr)/\∀id,q.TC id->j≠id/\∀b,m j=U b->b.names id=J)->iL S m l j=m j
 |[],_,_=>rfl
 |r::l,m,h=>by
  have h0:(bif S r.i then r.ms m else m) j=m j:=by
   cases e:S r.i with
   |false=>rfl
   |true=>simp_all[Rec.ahy]
  rw[iL,vp λq hq hs=>by rw[h0];exact h q (by simp[hq]) hs,h0]
theorem DG{j:Nat}:∀{l:List Rec}{m n:Mem},m j=n j->(∀q∈l,S q.i=J->(∀b,(j,b)∉q.wr)/\q.kl=[])->iL S m l j=sQ n l j
 |[],_,_,h,_=>h
 |r::l,m,n,h,hs=>by
  rw[iL,sQ];refine DG ?_ λq hq=>hs q (by simp[hq]);cases e:S r.i with
  |true=>exact Rec.Qk h
  |false=>have⟨h1,h2⟩:=hs r ae e;rw[Rec.ahy h1 λid⟨b,hid⟩=>by rw[h2]at hid;cases hid];exact h
theorem EJ{j:Nat}:∀{l:List Rec}{m n:Mem},m j=n j->(∀q∈l,S q.i=S' q.i)->iL S m l j=iL S' n l j
 |[],_,_,h,_=>h
 |r::l,m,n,h,hs=>by
  rw[iL,iL];refine EJ ?_ λq hq=>hs q (by simp[hq]);rw[hs r ae];cases S' r.i
  .exact h
  .exact Rec.Qk h
end
section
variable {E:Env} {ops:Array Oper} {w0:bI}
abbrev hB(w0:bI)(H:Ro):bI:={w0 with hid:=H}
def Vb(H:Ro)(g:Nat):Ro:=λk=>if k=g then Z else H k
def ahz(E:Env)(t:TypeId)(c:Array Value):Prop:=∃i zv,E.P.info? t=U i/\i.zero=U zv/\c=zv.cells
def Still(E:Env)(ops:Array Oper)(w0:bI)(r:Rec)(f:Fr)(m:Mem):Prop:=qS r.o=Y->isApp E r.o=J->(r.wr=[]/\r.kl=[])/\∀(f2:Fr)(m2:Mem),(∀t∈r.o.looksAt ops,f2 t=f t)->(∀x∈r.ft,m2 x.2=m x.2)->∀(H:Ro)(μ:Ro)(φ:Nat->aT)(a:Act)(w:World),Rel E.P E.aQ E.fn.ntmps (hB w0 H) μ φ f2 m2 a w->∃y,(execOp a.eval r.o).run E.P w=.ok (.value y) w
def arS(E:Env)(ops:Array Oper)(w0:bI)(r:Rec)(f:Fr)(m:Mem):Prop:=sw E r.o=Y->r.kl=[]/\∀(f2:Fr)(m2:Mem),(∀t∈r.o.looksAt ops,f2 t=f t)->(∀x∈r.ft,m2 x.2=m x.2)->∀(H:Ro)(μ:Ro)(φ:Nat->aT)(a:Act)(w:World)(d:Nat)(t:TypeId)(c:Array Value)(g:Nat),Rel E.P E.aQ E.fn.ntmps (hB w0 H) μ φ f2 m2 a w->r.o.op=.alloc t->r.o.dst=U d->ahz E t c->a.tmps.getD d undef=.pointer (U ⟨g,0,Z⟩)->H g=U (.cells c t)->∃φ',Rel E.P E.aQ E.fn.ntmps (hB w0 (Vb H g)) μ φ' (r.fs f2) (r.ms m2) a w
def Ql(E:Env)(ops:Array Oper)(w0:bI)(r:Rec)(f:Fr)(m:Mem):Prop:=Still E ops w0 r f m/\arS E ops w0 r f m/\∀(f2:Fr)(m2:Mem),(∀t∈r.o.looksAt ops,f2 t=f t)->(∀x∈r.ft,m2 x.2=m x.2)->∀(H:Ro)(μ:Ro)(φ:Nat->aT)(a:Act)(w:World)(K:Act->World->Prop)(Q:Exit->Act->World->Prop),Rel E.P E.aQ E.fn.ntmps (hB w0 H) μ φ f2 m2 a w->(∀μ' φ' a' w',Rel E.P E.aQ E.fn.ntmps (hB w0 H) μ' φ' (r.fs f2) (r.ms m2) a' w'->K a' w')->if Region.wanted r.o (yielded ops a.tmps)then∀rd:Option Nat,r.o.wpIn (FR rd) 0 E.P a w K Q else K (a.put r.o.dst undef) w
def eB(E:Env)(ops:Array Oper)(w0:bI):Fr->Mem->List Rec->Prop
 |_,_,[]=>True
 |f,m,r::l=>Ql E ops w0 r f m/\(∀id b,(id,b)∈r.wr->(Y,id)∈r.ft)/\eB E ops w0 (r.fs f) (r.ms m) l
theorem eB.append{f:Fr}{m:Mem}{l l':List Rec}:eB E ops w0 f m (l++l')↔eB E ops w0 f m l/\eB E ops w0 (lf f l) (sQ m l) l':=by
 induction l generalizing f m with
 |nil=>simp[eB,lf,sQ]
 |cons r l ih=>simp_all[azu,eB,lf,sQ,aAr]
def Clean(ops:Array Oper)(id:Nat)(r:Rec)(f:Fr)(m:Mem):Prop:=(∀t∈r.o.looksAt ops,(f t).has id=J)/\r.v.has id=J/\(∀x∈r.ft,x.2≠id/\∀b,m x.2=U b->b.names id=J)/\∀j b,(j,b)∈r.wr->(∀m,r.ms m j=U b)->j≠id/\b.names id=J
def lX(ops:Array Oper):Fr->Mem->List Rec->Prop
 |_,_,[]=>True
 |f,m,r::l=>(∀q∈l,∀id,q.TC id->reach ops 4 q.o r.i=Y\/Clean ops id r f m)/\lX ops (r.fs f) (r.ms m) l
theorem lX.append{f:Fr}{m:Mem}{l l':List Rec}(h:lX ops f m (l++l')):lX ops (lf f l) (sQ m l) l':=by
 induction l generalizing f m with
 |nil=>exact h
 |cons r l ih=>exact ih h.2
def Ord(ops:Array Oper)(q r:Rec):Prop:=reach ops 4 r.o q.i=Y\/(q.o.apart ops r.o=Y/\(∀id b,(id,b)∈q.wr->∀x∈r.ft,x.2≠id)/\∀id b,(id,b)∈r.wr->∀x∈q.ft,x.2≠id)
theorem TE{o:Oper}{j:Nat}(h:JA o j=Y):∃e∈o.after,Region.binds .any e=Y/\e.on=j:=by unfold JA at h;have⟨e,he,h⟩:=azE.1 h;have he:e∈o.after:=azQ.1 he;simp only[T1]at h;grind [Nat.eq_of_beq_eq_true]
abbrev ay(l:Array Bool):Nat->Bool:=λi=>l.getD i J
def Ai(ops:Array Oper)(listed:Array Bool):Prop:=∀i o,ops[i]?=U o->ay listed i=Y->∀e∈o.after,Region.binds .any e=Y->ay listed e.on=Y
theorem qY(listed:Array Bool)(vR:Ai ops listed):∀(n:Nat)(o:Oper)(j:Nat),(∀e∈o.after,Region.binds .any e=Y->ay listed e.on=Y)->reach ops n o j=Y->ay listed j=true:=by
 have ak1:∀(o:Oper)(j:Nat),(∀e∈o.after,Region.binds .any e=Y->ay listed e.on=Y)->JA o j=Y->ay listed j=true:=λo j ho h=>by grind [TE]
 intro n;induction n with
 |zero=>exact λo j ho h=>ak1 o j ho h
 |succ n ihn=>
  intro o j ho h;simp only[reach,ayj]at h;rcases h with h|h
  .exact ak1 o j ho h
  .obtain⟨e,he,h⟩:=azE.1 h;simp only[T1]at h;obtain⟨hb,h⟩:=h;have he:e∈o.after:=azQ.1 he;split at h
   next p hp=>exact ihn p j (vR e.on p hp (ho e he hb)) h
   .cases h
variable{recs:List Rec}{m0:Mem}
theorem TF{f0:Fr}(bX:recs.Pairwise λq r=>q.i≠r.i)(Su:recs.Pairwise (Ord ops))(jK:recs.Pairwise λq r=>q.kl≠[]->reach ops 4 r.o q.i=Y)(Vc:lX ops f0 m0 recs)(gW:eB E ops w0 f0 m0 recs){S:Nat->Bool}{r:Rec}(hr:r∈recs)(hSi:S r.i=J)(avW:∀q∈recs,reach ops 4 r.o q.i=Y->S q.i=Y)(avX:∀q∈recs,reach ops 4 q.o r.i=Y->S q.i=J):∃f1 m1,Ql E ops w0 r f1 m1/\(∀t∈r.o.looksAt ops,gI S f0 recs t=f1 t)/\(∀x∈r.ft,iL S m0 recs x.2=m1 x.2)/\∀S':Nat->Bool,(∀j,S' j=if j=r.i then Y else S j)->gI S' f0 recs=r.fs (gI S f0 recs)/\iL S' m0 recs=r.ms (iL S m0 recs):=by
 obtain⟨pre,post,sP⟩:=List.append_of_mem hr;subst sP;have Mw:∀q∈pre,Ord ops q r:=λq hq=>(ay9.1 Su).2.2 q hq r ae;have ac1:∀q∈post,Ord ops r q:=λq hq=>(ay4.1 (ay9.1 Su).2.1).1 q hq;have avY:∀q∈post,q.i≠r.i:=λq hq=>((ay4.1 (ay9.1 bX).2.1).1 q hq).symm;have axx:∀q∈pre,q.i≠r.i:=λq hq=>(ay9.1 bX).2.2 q hq r ae;have axO:∀q:Rec,q∈pre->reach ops 4 r.o q.i=Y->S q.i=true:=λq hq h=>avW q (by simp[hq]) h;have aeR:∀q∈post,reach ops 4 q.o r.i=Y->S q.i=false:=λq hq h=>avX q (by simp[hq]) h;have amU:∀(f:Fr),gI S f (r::post)=gI S f post:=λf=>by rw[gI,hSi];rfl
 have ahA:∀(m:Mem),iL S m (r::post)=iL S m post:=λm=>by rw[iL,hSi];rfl
 have⟨_,XK,hrw,_⟩:=eB.append.1 gW;have hc:=Vc.append.1;have axy:∀q∈pre,q.kl≠[]->reach ops 4 r.o q.i=true:=λq hq=>(ay9.1 jK).2.2 q hq r ae;have ahB:r.kl≠[]->∀q∈post,reach ops 4 q.o r.i=true:=λh q hq=>(ay4.1 (ay9.1 jK).2.1).1 q hq h;have W4:∀t∈r.o.looksAt ops,gI S f0 pre t=lf f0 pre t:=λt ht=>DF rfl λq hq hs=>by
  have Ti:¬reach ops 4 r.o q.i=true:=λh=>av
  refine⟨λhd=>?_,?_⟩
  .rcases Mw q hq with h|⟨h,_⟩
   .exact Ti h
   grind [absurd,Oper.apart_spec]
  grind
 have hm1:∀x∈r.ft,iL S m0 pre x.2=sQ m0 pre x.2:=λx hx=>DG rfl λq hq hs=>by
  have Ti:¬reach ops 4 r.o q.i=true:=λh=>av
  refine⟨λb hb=>?_,?_⟩
  .rcases Mw q hq with h|⟨_,h,_⟩
   .exact Ti h
   grind
  grind
 have hnp:∀q∈post,S q.i=Y->¬reach ops 4 q.o r.i=true:=λq hq hs h=>av
 have Z5:∀t∈r.o.looksAt ops,gI S f0 (pre++r::post) t=lf f0 pre t:=λt ht=>by
  rw[BS,amU,sd λq hq hs=>⟨λhd=>?_,λid hid=>?_⟩]
  .exact W4 t ht
  .rcases ac1 q hq with h|⟨h,_⟩
   .exact hnp q hq hs h
   grind [absurd,Oper.apart_spec]
  .rw[W4 t ht];rcases hc q hq id hid with h|h
   .simp_all
   .exact h.1 t ht
 have dC:∀x∈r.ft,iL S m0 (pre++r::post) x.2=sQ m0 pre x.2:=λx hx=>by
  rw[GH,ahA,vp λq hq hs=>⟨λb hb=>?_,λid hid=>?_⟩]
  .exact hm1 x hx
  .rcases ac1 q hq with h|⟨_,_,h⟩
   .exact hnp q hq hs h
   grind
  .rw[hm1 x hx];rcases hc q hq id hid with h|h
   .simp_all
   .exact h.2.2.1 x hx
 refine⟨_,_,XK,Z5,dC,λS' hS'=>?_⟩;have amV:∀q∈pre,S' q.i=S q.i:=λq hq=>av
 have Vd:∀q∈post,S' q.i=S q.i:=λq hq=>av
 have hSr:S' r.i=true:=by rw[hS',BY rfl]
 have e1:gI S' f0 (pre++r::post)=r.fs (gI S f0 (pre++r::post)):=funext λt=>by
  have hg:gI S' f0 pre=gI S f0 pre:=funext λs=>EI rfl amV;rw[BS,BS,amU,gI,hSr,hg];simp only[cond];by_cases hk:r.kl=[]
  .by_cases hd:r.o.dst=U t
   .rw[Rec.Qi hd,sd λq hq hs=>⟨λhqd=>?_,λid hid=>?_⟩,Rec.Qi hd]
    .rw[Vd q hq]at hs;rcases ac1 q hq with h|⟨h,_⟩
     .exact hnp q hq hs h
     grind [absurd,Oper.apart_spec]
    .rw[Vd q hq]at hs;rw[Rec.Qi hd];rcases hc q hq id hid with h|h
     .simp_all
     .exact h.2.1
   .have JN:∀(g:Fr),r.fs g t=g t:=λg=>Rec.ac0 hd λid⟨b,hid⟩=>av
    simp_all[EI]
  .have hun:∀q∈post,S q.i=false:=λq hq=>aeR q hq (ahB hk q hq);rw[sd λq hq hs=>av];grind [Rec.Qj,sd]
 have e2:iL S' m0 (pre++r::post)=r.ms (iL S m0 (pre++r::post)):=funext λj=>by
  have hg:iL S' m0 pre=iL S m0 pre:=funext λs=>EJ rfl amV;rw[GH,GH,ahA,iL,hSr,hg];simp only[cond];by_cases hk:r.kl=[]
  .by_cases hd:∃b,(j,b)∈r.wr
   .obtain⟨b,hd,Gj⟩:=Rec.amT hd;rw[Gj,vp λq hq hs=>⟨λb' hqd=>?_,λid hid=>?_⟩,Gj]
    .rw[Vd q hq]at hs;rcases ac1 q hq with h|⟨_,_,h⟩
     .exact hnp q hq hs h
     grind
    .rw[Vd q hq]at hs;rcases hc q hq id hid with h|h
     .simp_all
     .obtain⟨h1,h2⟩:=h.2.2.2 j b hd Gj;simp_all
   .have hd':∀b,(j,b)∉r.wr:=λb hb=>hd ⟨b,hb⟩;have JN:∀(g:Mem),r.ms g j=g j:=λg=>Rec.ahy hd' λid⟨b,hid⟩=>av
    simp_all[EJ]
  .have hun:∀q∈post,S q.i=false:=λq hq=>aeR q hq (ahB hk q hq);rw[vp λq hq hs=>av];grind [Rec.Qk,vp]
 exact⟨e1,e2⟩
variable{rd:Option Nat}{Q:Exit->Act->World->Prop}
theorem Qm{f0:Fr}(H:Ro)(bX:recs.Pairwise λq r=>q.i≠r.i)(nJ:∀r∈recs,ops[r.i]?=U r.o)(Su:recs.Pairwise (Ord ops))(jK:recs.Pairwise λq r=>q.kl≠[]->reach ops 4 r.o q.i=Y)(Vc:lX ops f0 m0 recs)(gW:eB E ops w0 f0 m0 recs){listed:Array Bool}(vR:Ai ops listed){r:Rec}(hr:r∈recs)(Aj:∀e∈r.o.after,Region.binds .any e=Y->ay listed e.on=Y)(My:r.i<listed.size)(hSi:ay listed r.i=J){μ:Ro}{φ:Nat->aT}{a:Act}{w:World}(hR:Rel E.P E.aQ E.fn.ntmps (hB w0 H) μ φ (gI (ay listed) f0 recs) (iL (ay listed) m0 recs) a w){K:Act->World->Prop}(hK:∀μ' φ' a' w',Rel E.P E.aQ E.fn.ntmps (hB w0 H) μ' φ' (gI (ay (listed.setIfInBounds r.i Y)) f0 recs) (iL (ay (listed.setIfInBounds r.i Y)) m0 recs) a' w'->K a' w'):wpOpIn (FR rd) 0 E.P ops Q r.i K a w/\(qS r.o=Y->isApp E r.o=J->∃y,(execOp a.eval r.o).run E.P w=.ok (.value y) w):=by
 obtain⟨f1,m1,XK,Z5,dC,hS⟩:=TF bX Su jK Vc gW (S:=ay listed) hr hSi (λq _ h=>qY listed vR 4 r.o q.i Aj h) (λq hq h=>by
  cases hc':ay listed q.i with
  |false=>rfl
  |true=>have:=qY listed vR 4 q.o r.i (vR q.i q.o (nJ q hq) hc') h;simp_all)
 obtain⟨e1,e2⟩:=hS (ay (listed.setIfInBounds r.i Y)) λj=>by simp only[ay,awW,ayw];grind
 refine⟨?_,λhf hf'=>(XK.1 hf hf').2 _ _ Z5 dC H μ φ a w hR⟩;have hwp:=XK.2.2 _ _ Z5 dC H μ φ a w K Q hR λμ' φ' a' w' mo=>hK _ _ _ _ (by rw[e1,e2];exact mo);unfold wpOpIn;rw[nJ r hr];simp only;split
 .simp_all
 next hw=>rw[IT hw]at hwp;exact⟨λ_ _=>trivial,hwp⟩
theorem ahC{f0:Fr}{base:Nat->Bool}(bX:recs.Pairwise λq r=>q.i≠r.i)(nJ:∀r∈recs,ops[r.i]?=U r.o)(ac2:∀r∈recs,base r.i=J)(ahD:∀i o,ops[i]?=U o->base i=J->(∀r∈recs,r.i≠i)->(∀r∈recs,reach ops 8 o r.i=Y)\/∃j,reach ops 8 o j=Y/\base j=J/\∀r∈recs,r.i≠j)(Su:recs.Pairwise (Ord ops))(jK:recs.Pairwise λq r=>q.kl≠[]->reach ops 4 r.o q.i=Y)(Vc:lX ops f0 m0 recs)(amW:∀r∈recs,∀e∈r.o.after,Region.binds .any e=Y->e.on<r.i/\(base e.on=Y\/∃q∈recs,q.i=e.on))(gW:eB E ops w0 f0 m0 recs)(hQ:∀(fuel:Nat)(listed:Array Bool),listed.size=ops.size->listed.toList.countP (λb=> !b)<=fuel->Ai ops listed->(∀i,ay listed i=Y↔base i=Y\/∃r∈recs,r.i=i)->∀μ φ a w,Rel E.P E.aQ E.fn.ntmps w0 μ φ (lf f0 recs) (sQ m0 recs) a w->wpAnyIn (FR rd) 0 E.P .any ops Q fuel listed a w):∀(fuel:Nat)(listed:Array Bool),listed.size=ops.size->listed.toList.countP (λb=> !b)<=fuel->Ai ops listed->(∀i,base i=Y->ay listed i=Y)->(∀i,ay listed i=Y->base i=Y\/∃r∈recs,r.i=i)->∀(μ:Ro)(φ:Nat->aT)(a:Act)(w:World),Rel E.P E.aQ E.fn.ntmps w0 μ φ (gI (ay listed) f0 recs) (iL (ay listed) m0 recs) a w->wpAnyIn (FR rd) 0 E.P .any ops Q fuel listed a w:=by
 have done:∀(fuel:Nat)(listed:Array Bool),listed.size=ops.size->listed.toList.countP (λb=> !b)<=fuel->Ai ops listed->(∀i,base i=Y->ay listed i=Y)->(∀i,ay listed i=Y->base i=Y\/∃r∈recs,r.i=i)->(∀r∈recs,ay listed r.i=Y)->∀(μ:Ro)(φ:Nat->aT)(a:Act)(w:World),Rel E.P E.aQ E.fn.ntmps w0 μ φ (gI (ay listed) f0 recs) (iL (ay listed) m0 recs) a w->wpAnyIn (FR rd) 0 E.P .any ops Q fuel listed a w:=by
  intro fuel listed hs hc vR hb yO hl μ φ a w hR;have e1:gI (ay listed) f0 recs=lf f0 recs:=funext λt=>DF rfl λq hq hf=>av
  have e2:iL (ay listed) m0 recs=sQ m0 recs:=funext λt=>DG rfl λq hq hf=>av
  grind
 have ak2:∀(listed:Array Bool),listed.size=ops.size->(∀i,base i=Y->ay listed i=Y)->(∀r∈recs,r.i∉Region.ready .any ops listed)->∀(n:Nat)(r:Rec),r∈recs->r.i<n->ay listed r.i=true:=by
  intro listed hs hb hr n;induction n with
  |zero=>omega
  |succ n ih=>
   intro r Gi hi;cases hc:ay listed r.i with
   |true=>rfl
   |false=>
    exfalso;have bX:r.i<listed.size:=ao
    refine hr r Gi (mem_ready.2 ⟨ao,r.o,nJ r Gi,λe he mH=>?_⟩);grind
 intro fuel;induction fuel with
 |zero=>
  intro listed hs hc vR hb yO μ φ a w hR;refine done 0 listed hs hc vR hb yO (λr hr=>?_) μ φ a w hR;have bX:r.i<listed.size:=ao
  have:=aAz.1 (aBw.1 hc) listed[r.i] ae;simp only[ay,awW,aq5 bX,ayy];simpa using this
 |succ fuel ih=>
  intro listed hs hc vR hb yO μ φ a w hR;by_cases arT:∀r∈recs,ay listed r.i=Y
  .grind
  have axz:∃r∈recs,ay listed r.i=false:=ao
  refine⟨λh0=>absurd (λr hr=>ak2 listed hs hb (λr hr h=>by rw[h0]at h;cases h) (r.i+1) r hr aa) arT,λi hi=>?_⟩;obtain⟨hun,o,ho,Aj⟩:=mem_ready.1 hi;have axP:ay listed i=false:=ao
  by_cases Ti:∀r∈recs,r.i≠i
  .have hbi:base i=false:=ao
   rcases ahD i o ho hbi Ti with h|⟨j,h1,h2,h3⟩
   .grind [qY]
   grind [qY,absurd]
  have hex:∃r∈recs,r.i=i/\r.o=o:=ao
  obtain⟨r,hr,rfl,rfl⟩:=hex;have My:r.i<listed.size:=ao
  have hSi:ay listed r.i=false:=aa
  refine(Qm w0.hid bX nJ Su jK Vc gW vR hr Aj My hSi hR λμ' φ' a' w' mo=>?_).1;have hS':∀j,ay (listed.setIfInBounds r.i Y) j=if j=r.i then Y else ay listed j:=λj=>by simp only[ay,awW,ayw];grind
  refine ih (listed.setIfInBounds r.i Y) (by simp[hs]) ?_ ?_ ?_ ?_ μ' φ' a' w' mo
  .rw[azh,aAA aa];have:listed.toList[r.i]'(aa)=false:=by simp only[ay,awW,aq5 My,ayy]at hSi;simpa using hSi
   grind
  .intro i' o' ho' sC e he FT;rw[hS']at sC⊢;split
   .rfl
   .split at sC
    .grind
    .exact vR i' o' ho' sC e he FT
  .grind
  grind
end
section
variable {E:Env} {ops:Array Oper} {w0:bI}
variable{o:Oper}
theorem TG{t:Nat}(h:.tmp t∈o.op.operands):t∈o.looksAt ops:=by unfold Oper.looksAt;refine ayq.2 (.inl (az3.2 ⟨.tmp t,by simpa using h,rfl⟩))
theorem GI{g:Nat×Bool}{t:Nat}(hg:o.guard=U g)(h:(ops[g.1]?).bind (·.dst)=U t):t∈o.looksAt ops:=by simp_all[Oper.looksAt]
variable{f:Fr}
theorem zI{F:Fr}(h:∀t∈o.looksAt ops,f t=F t):∀x∈o.op.operands,cd E f x=cd E F x:=by
 intro x hx;cases x with
 |tmp t=>simp_all[cd,TG]
 |_=>rfl
variable{A:List (Nat×Bool)}{μ:Ro}{φ:Nat->aT}{a:Act}{w:World}
theorem XL{f2:Fr}{m2:Mem}(hg:guardOf o A=Z)(hA:Ah E.fn.ntmps ops A f)(hR:Rel E.P E.aQ E.fn.ntmps w0 μ φ f2 m2 a w)(hf:∀t∈o.looksAt ops,f2 t=f t):Region.wanted o (yielded ops a.tmps)=true:=by
 unfold guardOf at hg;unfold Region.wanted;split at hg
 next hgd=>simp[hgd]
 .rename_i g hgd;split at hg
  next bt=>obtain⟨t,h1,h0,h2⟩:=hA g (by simpa using bt);have h3:=hR.fr t;grind [wW,GI,EF,Af]
  .cases hg
variable{m:Mem}{R:Type}
theorem TH(hk:qS o=Y){site:Nat}{k:V->Fr->Mem->bS->Option R}{r:R}(h:cT E Y site o f m k=U r):(∃v ft,k v f m ft=U r/\∀x∈ft,x.1=J)/\∀{w0:bI}{μ:Ro}{φ:Nat->aT}{a:Act}{w:World},Rel E.P E.aQ E.fn.ntmps w0 μ φ f m a w->∃y,(execOp a.eval o).run E.P w=.ok (.value y) w:=by
 obtain⟨dst,op,type,pos,after,guard⟩:=o;cases op<;>simp only[qS,Bool.and_false,AI]at hk;case move x=>simp only[cT]at h;exact⟨⟨_,_,h,ae⟩,λhR=>⟨_,rfl⟩⟩
 case load t x=>simp only[cT]at h;have⟨v,ft,h1,h2,h3,h4⟩:=Py h;refine⟨⟨v,ft,h2,h3⟩,λhR=>?_⟩;obtain⟨y,hy,_⟩:=h4 _ _ _ _ _ _ hR.toaR (aL hR x).1;exact⟨y,by simp[execOp,hy]⟩
 case nilCheck x=>
  simp only[cT]at h;have key:∀{v},cd E f x=v->(∀(μ:Ro)(φ:Nat->aT)y,az E.P μ φ v y->(∃ad,y=.pointer (U ad))\/∃g xs ys,y=.func (.func g) xs ys)->k v f m []=U r->(∃v ft,k v f m ft=U r/\∀x∈ft,x.1=J)/\∀{w0:bI}{μ:Ro}{φ:Nat->aT}{a:Act}{w:World},Rel E.P E.aQ E.fn.ntmps w0 μ φ f m a w->∃y,(execOp a.eval ⟨dst,.nilCheck x,type,pos,after,guard⟩).run E.P w=.ok (.value y) w:=by
   intro v hv hp hk;refine⟨⟨v,[],hk,ae⟩,λ{w0 μ φ a w}hR=>?_⟩;have⟨h1,h2⟩:=aL hR x;rw[hv]at h1;refine⟨a.eval x,?_⟩;rcases hp μ φ _ h1 with⟨ad,e⟩|⟨g,xs,ys,e⟩
   .simp only[execOp,e];rfl
   .simp only[execOp,e];rfl
  split at h
  next cs hx=>exact key hx (λμ φ y hy=>by cases hy with|pv hy=>cases hy;simp) h
  next hx=>exact key hx (λμ φ y hy=>by cases hy;simp) h
  next hx=>exact key hx (λμ φ y hy=>by cases hy;simp) h
  next hx=>exact key hx (λμ φ y hy=>by cases hy;simp) h
  next hx=>exact key hx (λμ φ y hy=>by cases hy;exact .inr (sI _ _)) h
  next hx=>exact key hx (λμ φ y hy=>by cases hy with|pv hy=>cases hy;exact .inr (sI _ _)) h
  .cases h
 case fieldAddr s x j=>simp only[cT]at h;have⟨v,v1,v2,v3,v4⟩:=Jc h;refine⟨⟨v,[],v2,ae⟩,λ{w0 μ φ a w}hR=>?_⟩;obtain⟨y,hy,_⟩:=v4 μ φ w _ (aL hR x).1;exact⟨y,by simp[execOp,hy]⟩
variable{P:Program}{G:Nat->Option (List PV)}{nt:Nat}
theorem yZ.hid{yl:YL}(h:yZ P G nt yl w0)(H:Ro):yZ P G nt yl (hB w0 H):=λH'=>h H'
variable{H:Ro}
theorem aR.Ve{H':Ro}(h:aR P G (hB w0 H) μ φ m w)(hle:∀g o,H' g=U o->H g=U o):aR P G (hB w0 H') μ φ m w:=⟨h.below,h.ro,h.aQ,h.eE,h.own,h.inj,h.apart,h.hU,h.base,h.eF,h.L2,λg o hg=>h.hid g o (hle g o hg)⟩
theorem Rel.Ve{nt:Nat}{H H':Ro}{μ:Ro}{φ:Nat->aT}{f:Fr}{m:Mem}{a:Act}{w:World}(h:Rel E.P E.aQ nt (hB w0 H) μ φ f m a w)(hle:∀g o,H' g=U o->H g=U o):Rel E.P E.aQ nt (hB w0 H') μ φ f m a w:={toaR:=h.toaR.Ve hle,size:=h.size,defers:=h.defers,ow:=h.ow,fr:=h.fr,live:=h.live}
def hAdd(H:Ro)(g:Nat)(o:Obj):Ro:=λk=>if k=g then U o else H k
theorem Rel.ahE(h:Rel E.P E.aQ nt (hB w0 H) μ φ f m a w)(o:Obj):Rel E.P E.aQ nt (hB w0 (hAdd H w.heap.size o)) μ φ f m a (w.alloc o):=by
 have hold:∀k,k<w.heap.size->(w.alloc o).heap[k]?=w.heap[k]?:=λk hk=>ou.heap_alloc w o k hk;refine{toaR:=⟨h.below.alloc h.below.size o,λb o' hb=>?_,h.aQ,λid b hid=>?_,h.own,h.inj,h.apart,h.hU,h.base,h.eF,λid st hid=>?_,λg o' hg=>?_⟩,size:=h.size,defers:=h.defers,ow:=h.ow,fr:=h.fr,live:=h.live}
 .have:=h.ro b o' hb;grind
 .have hR:=h.eE id b hid;exact hR.dd (λ_ _=>rfl) rfl (λ_ _ h=>h) (λg hg=>hold g (hR.ON hg))
 .obtain⟨g,rc,h1,h2,h3⟩:=h.L2 id st hid;grind
 .simp only[hB,hAdd]at hg;split at hg
  .rename_i e;subst e;simp only[tc]at hg;subst hg;refine⟨heap_alloc_new w o,h.below.size,?_,λid b hb hg=>?_⟩
   .cases hq:μ w.heap.size with
    |none=>rfl
    |some o'=>have:=(auA.1 (h.ro _ _ hq)).1;omega
   .have:=(h.eE id b hb).ON hg;omega
  .obtain⟨h1,h2⟩:=h.hid g o' hg;grind
variable{v:V}{ft:bS}{i:Nat}
theorem aeS{f2:Fr}{m2:Mem}{wr:List (Nat×cS)}(hn:∀(R':Type)(k':V->Fr->Mem->bS->Option R'),cT E Y (dm E o.dst) o f2 m2 k'=k' v f2 (BN wr m2) ft)(hk:sw E o=Y){d:Nat}{t:TypeId}{c:Array Value}{g:Nat}(hR:Rel E.P E.aQ E.fn.ntmps (hB w0 H) μ φ f2 m2 a w)(TA:o.op=.alloc t)(hds:o.dst=U d)(hc:ahz E t c)(hp:a.tmps.getD d undef=.pointer (U ⟨g,0,Z⟩))(hH:H g=U (.cells c t)):∃φ',Rel E.P E.aQ E.fn.ntmps (hB w0 (Vb H g)) μ φ' ((⟨i,o,v,wr,ft,[]⟩:Rec).fs f2) ((⟨i,o,v,wr,ft,[]⟩:Rec).ms m2) a w:=by
 obtain⟨dst,op,type,pos,after,guard⟩:=o;simp only at TA hds;subst TA;subst hds;simp only[sw,T1,ayx,isApp,ayT]at hk;obtain⟨⟨⟨_,Sq⟩,hdo⟩,hz⟩:=hk;have⟨cs,hz⟩:=aym.1 hz;have⟨inf,zv,z1,z2,z3,z4,z5,z6,z7,z8⟩:=eA hz;obtain⟨axQ,zv',y1,y2,rfl⟩:=hc;rw[z1]at y1;cases y1;rw[z2]at y2;cases y2;have h0:=hn (V×Fr×Mem×bS) λv f m ft=>U (v,f,m,ft);simp only[cT,hz,Sq,cond_false,aq3,azL,AI,OF]at h0;have⟨f',m',_,mq,Gj,Gk,Et⟩:=cU h0;simp only[tc,aq4]at mq;obtain⟨rfl,rfl,rfl,rfl⟩:=mq;have hM:=hR.toaR;obtain⟨q1,q2,q3,q4⟩:=hM.hid g _ hH;have hdl:d<E.fn.ntmps:=jJ hdo d rfl;have hle:∀k o,Vb H g k=U o->H k=U o/\k≠g:=λk o hk=>by simp_all[Vb]
 obtain⟨φ',a1,a2,a3⟩:=Et E.P E.aQ (hB w0 (Vb H g)) μ φ w w (cE E.fn.ntmps w0 a) (NI (U g) 0 cs.length 0) (hM.Ve λk o hk=>(hle k o hk).1) ⟨hR.fr,hR.live⟩ ⟨ou.refl _ _,hM.ro,λ_ _ _ _ _=>rfl,λg' dH=>av,λφ' hφ _=>⟨g,zv.cells,t,by rw[hφ],q1,aa,λi u y hu hy=>z7 μ φ' i u y hu hy,z8,by rw[hφ]⟩,λid hid=>(by have hid:cX id cs=true:=hid;simp_all),λk o hk=>⟨(hM.hid k o (hle k o hk).1).1,λe=>(hle k o hk).2 av⟩,λst h=>by cases h⟩;refine⟨φ',{toaR:=a2,size:=hR.size,defers:=hR.defers,ow:=hR.ow,fr:=λs=>?_,live:=λs id hid=>?_}⟩
 .show az E.P μ φ' (kV f' (U d) _ s) _;by_cases e:s=d
  .subst e;rw[k8,wW hdl,hp];exact .op (by rw[a1])
  .rw[eL λh=>e (ayH h).symm];exact a3.fr s
 .have hid:(kV f' (U d) _ s).has id=true:=hid;show(BN wr m2 id).isSome=Y;by_cases e:s=d
  .subst e;rw[k8]at hid;have hid:=T0 hid;simp_all
  .rw[eL λh=>e (ayH h).symm]at hid;exact a3.live s id hid
theorem Qn(hE:mn E){wr:List (Nat×cS)}(hg:guardOf o A=Z)(hA:Ah E.fn.ntmps ops A f)(hd:FQ E o=Y)(hwr:∀x∈wr,(Y,x.1)∈ft)(hn:∀(f2:Fr)(m2:Mem),(∀x∈o.op.operands,cd E f2 x=cd E f x)->(∀x∈ft,m2 x.2=m x.2)->∀(R':Type)(k':V->Fr->Mem->bS->Option R'),WU E Y (dm E o.dst) o f2 m2 k'=k' v f2 (BN wr m2) ft):Ql E ops w0 ⟨i,o,v,wr,ft,[]⟩ f m:=by
 refine⟨λhk _=>⟨⟨?_,rfl⟩,λf2 m2 hf hm H μ φ a w hR=>?_⟩,λhk=>⟨rfl,λf2 m2 hf hm H μ φ a w d t c g hR TA hds hc hp hH=>aeS (λR' k'=>by rw[<-Pq];exact hn f2 m2 (zI hf) hm R' k') hk hR TA hds hc hp hH⟩,?_⟩
 .obtain⟨⟨v1,ft1,h1,h2⟩,_⟩:=TH (E:=E) hk (k:=λ_ _ _ ft=>U ft) (r:=ft) (by rw[<-Pq,hn f m (λ_ _=>rfl) (λ_ _=>rfl)]);simp only[tc]at h1;subst h1;cases wr with
  |nil=>rfl
  |cons x l=>grind
 .exact(TH (E:=E) hk (k:=λ_ _ _ ft=>U ft) (r:=ft) (by rw[<-Pq,hn f2 m2 (zI hf) hm])).2 hR
 intro f2 m2 hf hm H μ φ a w K Q hR hK;have hw:Region.wanted o (yielded ops a.tmps)=true:=by
  unfold guardOf at hg;unfold Region.wanted;split at hg
  next hgd=>simp[hgd]
  .rename_i g hgd;split at hg
   next bt=>obtain⟨t,h1,h0,h2⟩:=hA g (by simpa using bt);have h3:=hR.fr t;grind [wW,GI,EF,Af]
   .cases hg
 simp only at hf hm hK⊢;rw[BY hw];exact λrd=>(amQ hE (.inl rfl) (hn f2 m2 (zI hf) hm)).JO (Mu (hn f2 m2 (zI hf) hm Unit λ_ _ _ _=>U ())) rd (hB w0 H) μ φ a w K Q hR λy w' μ' φ' hle hM hF hv hl=>hK _ _ _ _ (hR.put hle (jJ hd) hM hF hv hl)
theorem aaI(hd:FQ E o=Y)(K0:aeP ops f o):Ql E ops w0 ⟨i,o,.b8 [],[],[],[]⟩ f m:=by
 refine⟨λhk _=>?_,λhk=>?_,?_⟩
 .obtain⟨g,hg,_⟩:=K0;simp[qS,hg]at hk
 .obtain⟨g,hg,_⟩:=K0;simp[sw,hg]at hk
 intro f2 m2 hf hm H μ φ a w K Q hR hK;simp only at hf hm hK⊢;have anX:aeP ops f2 o:=by obtain⟨g,hg,ht⟩:=K0;exact⟨g,hg,λt h=>by simp_all[GI]⟩
 rw[Jj hR anX];simp only[AI,OF];exact hK _ _ _ _ (hR.put (λ_ _ h=>h) (jJ hd) hR.toaR hR.nS Qc (λid hid=>by simp[V.has,cX]at hid))
def K4(x:Nat×Oper):Rec:=⟨x.1,x.2,.b8 [],[],[],[]⟩
theorem TI{m:Mem}:∀(l:List (Nat×Oper))(F:Fr),(∀x∈l,FQ E x.2=Y)->(∀(pre post:List (Nat×Oper))(x:Nat×Oper),l=pre++x::post->aeP ops (lS F pre) x.2)->eB E ops w0 F m (l.map K4)/\lf F (l.map K4)=lS F l
 |[],F,_,_=>⟨trivial,rfl⟩
 |x::r,F,hd,K0=>by obtain⟨h1,h2⟩:=TI (m:=m) r (kV F x.2.dst (.b8 [])) (λy hy=>hd y (by simp[hy])) (λpre post y h=>by have:=K0 (x::pre) post y (by rw[h];rfl);rwa[lS]at this);exact⟨⟨aaI (hd x ae) (K0 [] r x rfl),by simp[K4],h1⟩,h2⟩
theorem TJ{m:Mem}:∀{l:List Rec},(∀q∈l,q.wr=[]/\q.kl=[])->sQ m l=m
 |[],_=>rfl
 |r::l,h=>by
  have⟨h1,h2⟩:=h r ae;have:r.ms m=m:=by unfold Rec.ms;rw[h1,h2];rfl
  simp_all[sQ,TJ]
theorem eB.wr:∀{l:List Rec}{f:Fr}{m:Mem},eB E ops w0 f m l->∀q∈l,∀id b,(id,b)∈q.wr->(Y,id)∈q.ft
 |[],_,_,_,q,hq=>by cases hq
 |r::l,f,m,h,q,hq=>by
  rcases aye.1 hq with rfl|hq
  .exact h.2.1
  .exact eB.wr h.2.2 q hq
def aaJ(q r:Rec):Prop:=reach ops 4 r.o q.i=Y\/((∀id b,(id,b)∈q.wr->∀x∈r.ft,x.2≠id)/\∀id b,(id,b)∈r.wr->∀x∈q.ft,x.2≠id)
theorem XM{o:Oper}{w:Bool}{id:Nat}:∀{lg:Log},acF ops o w id lg=Y->∀x∈lg,id≠x.2.2\/(w=J/\x.2.1=J)\/reach ops 4 o x.1=Y
 |[],_,x,hx=>by cases hx
 |(j,w',BE)::lg,h,x,hx=>by
  simp only[acF,T1]at h;rcases aye.1 hx with rfl|hx
  .have h1:=h.1;simp only[ayj,ayx,T1]at h1;grind [Nat.beq_refl]
  .exact XM h.2 x hx
theorem Mz{o:Oper}{lg:Log}:∀{ft:bS},Mi ops o lg ft=Y->∀y∈ft,∀x∈lg,y.2≠x.2.2\/(y.1=J/\x.2.1=J)\/reach ops 4 o x.1=Y
 |[],_,y,hy=>by cases hy
 |(w,id)::ft,h,y,hy=>by
  simp only[Mi,T1]at h;rcases aye.1 hy with rfl|hy
  .exact XM h.1
  .exact Mz h.2 y hy
theorem Qo{o:Oper}{id:Nat}:∀{lg:Log},OV ops o id lg=Y->∀x∈lg,x.2.2=Ih id->reach ops 4 o x.1=Y
 |[],_,x,hx=>by cases hx
 |(j,w,n)::lg,h,x,hx=>by
  simp only[OV,T1,ayj,ayx]at h;intro he;rcases aye.1 hx with rfl|hx
  .simp_all
  .exact Qo h.2 x hx he
mutual
theorem ac3{id:Nat}:∀(v:V),v.has id=Y->id∈v.ids
 |.agg cs,h=>DH cs (by simpa only[V.has]using h)
 |.b8 cs,h=>DH cs (by simpa only[V.has]using h)
 |.fn _ cs,h=>DH cs (by simpa only[V.has]using h)
 |.os j,h=>by have:=T0 h;subst this;simp[V.ids]
 |.iJ j _ _,h=>by have:=T0 h;subst this;simp[V.ids]
 |.oe j _ _,h=>by have:=T0 h;subst this;simp[V.ids]
 |.om j,h=>by have:=T0 h;subst this;simp[V.ids]
 |.Gm j _ _,h=>by have:=T0 h;subst this;simp[V.ids]
 |.KB j _ _ _ _ _,h=>by have:=T0 h;subst this;simp[V.ids]
 |.op j _,h=>by have:=T0 h;subst this;simp[V.ids]
 |.it j,h=>by have:=T0 h;subst this;simp[V.ids]
 |.yl j,h=>by have:=T0 h;subst this;simp[V.ids]
 |.pv _,h=>by cases h
 |.il,h=>by cases h
 |.top,h=>by cases h
theorem DH{id:Nat}:∀(cs:List V),cX id cs=Y->id∈Xh cs
 |[],h=>by cases h
 |v::r,h=>by
  simp only[cX,ayj]at h;simp only[Xh,ayq];rcases h with h|h
  .exact .inl (ac3 v h)
  .exact .inr (DH r h)
end
variable{id:Nat}
theorem K5{b:cS}(h:b.names id=Y):id∈Pr (U b):=by
 cases b with
 |box cs=>exact DH cs h
 |_=>cases h
theorem JQ{m m':Mem}{id:Nat}:∀{ft:bS}{x:Bool×Nat},x∈ft->(id∈Pr (m x.2)\/id∈Pr (m' x.2))->id∈UP m m' ft
 |y::ft,x,hx,h=>by
  simp only[UP,ayq];rcases aye.1 hx with rfl|hx
  .exact .inl h
  .exact .inr (JQ hx h)
theorem ahF{wr:List (Nat×cS)}{F:Fr}(XN:∀t∈o.looksAt ops,f t=F t)(hwr:∀j b,(j,b)∈wr->(Y,j)∈ft)(hn:id∉OU ops o f m (BN wr m) v ft)(hft:∀x∈ft,x.2≠id):Clean ops id ⟨i,o,v,wr,ft,[]⟩ F m:=by
 simp only[OU,ayq,aAI]at hn;obtain⟨⟨h1,h2⟩,h3⟩:=hn;refine⟨λt ht=>?_,?_,λx hx=>⟨hft x hx,λb hb=>?_⟩,λj b hb Gj=>⟨hft _ (hwr j b hb),?_⟩⟩
 .cases e:(F t).has id with
  |false=>rfl
  |true=>exact absurd (DH _ (dF.2 ⟨f t,ayl.2 ⟨t,ht,rfl⟩,by rw[XN t ht];omega⟩)) h1
 .cases e:v.has id with
  |false=>rfl
  |true=>exact absurd (ac3 _ e) h2
 .cases e:b.names id with
  |false=>rfl
  |true=>grind [absurd,JQ,K5]
 .cases e:b.names id with
  |false=>rfl
  |true=>exact absurd (JQ (hwr j b hb) (.inr (by have mH:BN wr m j=U b:=Gj m;simp_all[K5]))) h3
theorem aaK{site:Nat}{rd:bS}(h:Er E f m o=U (id,rd)){k:V->Fr->Mem->bS->Option R}{r:R}(hx:cT E J site o f m k=U r):(∀x∈rd,x.1=J)/\∃eE,k (.os id) (ga id f) (aO (bO (b9 id m) id) id eE) [(Y,0)]=U r/\∀(f2:Fr)(m2:Mem),(∀x∈o.op.operands,cd E f2 x=cd E f x)->(∀x∈(Y,id)::rd,m2 x.2=m x.2)->∀(R':Type)(k':V->Fr->Mem->bS->Option R'),cT E J site o f2 m2 k'=k' (.os id) (ga id f2) (aO (bO (b9 id m2) id) id eE) [(Y,0)]:=by
 obtain⟨dst,op,type,pos,after,guard⟩:=o;unfold Er at h;simp only at h;split at h
 .rename_i c;obtain⟨callee,args,argTypes⟩:=c;simp only at h;split at h
  .rename_i BE x t t' Ae hty;split at h
   .rename_i e hu;split at h
    .rename_i new rd' PO;split at h
     .cases h
     .rename_i hxh;simp only[tc,aq4]at h;obtain⟨rfl,rfl⟩:=h;have⟨he1,he2,_⟩:=vn PO;have axR:∀m2:Mem,bO (b9 BE m2) BE BE=none:=λm2=>av
      have main:∀(f2:Fr)(m2:Mem),args.toList.map (cd E f2)=[.os BE,x]->m2 BE=m BE->im m2 (bq E.P e) x=U (new,rd')->∀(R':Type)(k':V->Fr->Mem->bS->Option R'),cT E J site ⟨dst,.call ⟨.builtin .append,args,argTypes⟩,type,pos,after,guard⟩ f2 m2 k'=if !(O (t'=t))then Z else if(dO E e).isNone then Z else match m BE with
       |some (.arr sz et es)=>if et=e/\sz=bq E.P e/\x.has BE=J then(if(es++new).length*Sf E.P e<=au/\0<Sf E.P e then k' (.os BE) (ga BE f2) (aO (bO (b9 BE m2) BE) BE (.arr sz e (es++new))) [(Y,0)]else Z)else Z
       |_=>none:=by
       intro f2 m2 h1 h2 h3 R' k'
       simp only[cT,h1,hty,KH,azY,hu,h3,h2]
       split
       .rfl
       .split
        .rfl
        grind [fresh]
      rw[main f m Ae rfl PO]at hx;refine⟨he2,?_⟩;split at hx
      .cases hx
      .rename_i hc1;split at hx
       .cases hx
       .rename_i Tc;split at hx
        .rename_i sz et es hm;split at hx
         .rename_i hc3;split at hx
          .rename_i hc4;refine⟨_,hx,λf2 m2 hf dC R' k'=>?_⟩;have ha:args.toList.map (cd E f2)=[.os BE,x]:=by grind [vT,Op.operands,Call.operands]
           rw[main f2 m2 ha (dC (Y,BE) ae) (he1 m2 λy hy=>dC y (by simp[hy])) R' k'];simp_all
          .cases hx
         .cases hx
        .cases hx
    .cases h
   .cases h
  .cases h
 .cases h
theorem El.kill{F:Fr}(h:El f F)(id:Nat):El (ga id f) (ga id F):=λt=>by
 rcases h t with e|e
 .exact .inl (by simp only[ga,e])
 .exact .inr (by simp only[ga,e];rfl)
theorem Ah.kill(h:Ah nt ops A f)(id:Nat):Ah nt ops A (ga id f):=by intro g hg;have⟨t,h1,h0,h2⟩:=h g hg;exact⟨t,h1,h0,by simp only[ga,h2];rfl⟩
theorem ahG{x:Nat×bS}(h:Er E f m o=U x):isApp E o=true:=by
 obtain⟨dst,op,type,pos,after,guard⟩:=o;unfold Er at h;simp only at h;unfold isApp;split at h
 next c=>obtain⟨callee,args,argTypes⟩:=c;grind
 .cases h
theorem Vf{rd:bS}(h:Er E f m o=U (id,rd)):∃c x t t',o.op=.call c/\c.callee=.builtin .append/\c.args.toList.map (cd E f)=[.os id,x]/\c.argTypes.toList=[t,t']:=by unfold Er at h;grind
theorem aeT{kl:Kl}(h:UQ E f m o=U (kl,ft)){k:V->Fr->Mem->bS->Option R}{r:R}(hx:WU E J (dm E o.dst) o f m k=U r):isApp E o=Y/\∃v wr ft1,k v (kf kl f) (BN wr (km kl m)) ft1=U r/\(∀x∈wr,(Y,x.1)∈ft)/\(∀x∈kl,(Y,x.2)∈ft)/\∀(f2:Fr)(m2:Mem),(∀x∈o.op.operands,cd E f2 x=cd E f x)->(∀x∈ft,m2 x.2=m x.2)->∀(R':Type)(k':V->Fr->Mem->bS->Option R'),WU E J (dm E o.dst) o f2 m2 k'=k' v (kf kl f2) (BN wr (km kl m2)) ft1:=by
 unfold UQ at h;unfold WU at hx;split at h
 .rename_i sp sM;simp only[tc]at h;have hn:E.Ma (dm E o.dst)=true:=ao
  rw[hn]at sM hx;simp only[cond]at sM hx;rw[sM]at hx;have⟨v,wr,h1,h2,h3,h4,_,_⟩:=aaG sM hx;rw[h]at h1 h2 h3 h4;refine⟨by unfold isApp;rw[hn];rfl,v,wr,ft,h1,h2,h3,λf2 m2 hf hm R' k'=>?_⟩;have:=aaE sM hf (by rw[h];exact hm);simp_all[WU,cond]
 .rename_i sM;split at h
  .rename_i id rd XO;simp only[tc,aq4]at h;obtain⟨rfl,rfl⟩:=h;have e0:(bif J then Z else bif E.Ma (dm E o.dst)then Jy E (dm E o.dst) o f m else Z)=(bif E.Ma (dm E o.dst)then Jy E (dm E o.dst) o f m else Z):=rfl;rw[e0,sM]at hx;simp only at hx;have⟨KU,eE,hk,hn⟩:=aaK XO hx;refine⟨ahG XO,.os id,[(id,eE)],[(Y,0)],hk,ae,ae,λf2 m2 hf hm R' k'=>?_⟩;have Jl:(bif E.Ma (dm E o.dst)then Jy E (dm E o.dst) o f2 m2 else Z)=none:=by
    cases Sq:E.Ma (dm E o.dst)with
    |false=>rfl
    |true=>
     simp only[cond];have⟨c,x,t,t',hc,Vg,Ae,akZ⟩:=Vf XO;have avZ:c.args.toList.map (cd E f2)=[.os id,x]:=by simp_all[ayE,Op.operands,Call.operands]
     have dC:m2 id=m id:=hm (Y,id) ae;have hm3:∃sz et es,m id=U (.arr sz et es):=by obtain⟨dst,op,type,pos,after,guard⟩:=o;simp only at hc;subst hc;obtain⟨callee,args,argTypes⟩:=c;simp only at Vg Ae akZ;subst Vg;simp only[cT,Ae,akZ,KH,azY]at hx;grind
     grind [Jy]
   unfold WU;have e1:(bif J then Z else bif E.Ma (dm E o.dst)then Jy E (dm E o.dst) o f2 m2 else Z)=(bif E.Ma (dm E o.dst)then Jy E (dm E o.dst) o f2 m2 else Z):=rfl;rw[e1,Jl];exact hn f2 m2 hf hm R' k'
  .cases h
theorem El.Ja{F:Fr}(h:El f F)(id:Nat):El (jr id f) (jr id F):=λt=>by
 rcases h t with e|e
 .simp_all[jr]
 .exact .inr (by simp only[jr,e];rfl)
theorem El.kf:∀{kl:Kl}{f F:Fr},El f F->El (Go.Ab.kf kl f) (Go.Ab.kf kl F)
 |[],_,_,h=>h
 |(Y,id)::r,f,F,h=>El.kf (kl:=r) (f:=ga id f) (F:=ga id F) (h.kill id)
 |(J,id)::r,f,F,h=>El.kf (kl:=r) (f:=jr id f) (F:=jr id F) (h.Ja id)
theorem Ah.Ja(h:Ah nt ops A f)(id:Nat):Ah nt ops A (jr id f):=by intro g hg;have⟨t,h1,h0,h2⟩:=h g hg;exact⟨t,h1,h0,by simp only[jr,h2];rfl⟩
theorem Ah.kf{nt:Nat}{A:List (Nat×Bool)}:∀{kl:Kl}{f:Fr},Ah nt ops A f->Ah nt ops A (Go.Ab.kf kl f)
 |[],_,h=>h
 |(Y,id)::r,f,h=>Ah.kf (kl:=r) (f:=ga id f) (h.kill id)
 |(J,id)::r,f,h=>Ah.kf (kl:=r) (f:=jr id f) (h.Ja id)
theorem aeU(hE:mn E)(hY:yZ E.P E.aQ E.fn.ntmps E.yl w0){F:Fr}{wr:List (Nat×cS)}{kl:Kl}{ft1:bS}(hg:guardOf o A=Z)(hA:Ah E.fn.ntmps ops A F)(hd:FQ E o=Y)(TA:∀x∈o.op.operands,cd E f x=cd E F x)(XO:isApp E o=Y)(hn:∀(f2:Fr)(m2:Mem),(∀x∈o.op.operands,cd E f2 x=cd E f x)->(∀x∈ft,m2 x.2=m x.2)->∀(R':Type)(k':V->Fr->Mem->bS->Option R'),WU E J (dm E o.dst) o f2 m2 k'=k' v (kf kl f2) (BN wr (km kl m2)) ft1):Ql E ops w0 ⟨i,o,v,wr,ft,kl⟩ F m:=by
 refine⟨λ_ hk=>av,λhk=>(by simp[sw,XO]at hk),?_⟩;intro f2 m2 hf hm H μ φ a w K Q hR hK;have hw:Region.wanted o (yielded ops a.tmps)=true:=XL hg hA hR hf;simp only at hf hm hK⊢;rw[BY hw];have hx:=hn f2 m2 (λx hx=>by rw[zI hf x hx,TA x hx]) hm (V×Fr×Mem) λv f m _=>U (v,f,m);rcases U8 hE hx with⟨v,f',m',ft,h1,h2⟩|⟨_,h2⟩
 .simp only[tc,aq4]at h1;obtain⟨rfl,rfl,rfl⟩:=h1;exact λrd=>h2.JO (Mu hx) rd (hB w0 H) μ φ a w K Q hR λy w' μ' φ' hle hM hF hv hl=>hK _ _ _ _ (hR.put hle (jJ hd) hM hF hv hl)
 .refine λrd=>P9.JO h2 rd (hB w0 H) μ φ a w K Q (hY.hid H) hR λv f' m' y w' μ' φ' h1 hle hM hF hv hl=>?_;simp only[tc,aq4]at h1;obtain⟨rfl,rfl,rfl⟩:=h1;exact hK _ _ _ _ (hR.put hle (jJ hd) hM hF hv hl)
structure Vh(ops:Array Oper)(mode:Nat)(F:Fr)(m:Mem)(lg:Log)(recs:List Rec):Prop where
 one:mode=1->∀q∈recs,q.wr=[]/\q.kl=[]
 ord:mode=2->recs.Pairwise (aaJ (ops:=ops))
 log:mode=2->∀q∈recs,∀y∈q.ft,∀x∈lg,y.2≠x.2.2\/(y.1=J/\x.2.1=J)\/reach ops 4 q.o x.1=Y
 kl:recs.Pairwise λq r=>q.kl≠[]->reach ops 4 r.o q.i=Y
 cln:lX ops F m recs
 nam:∀q∈recs,∀id,q.TC id->mode=2/\ops.toList.any (isApp E)=Y/\(Y,id)∈q.ft/\∀x∈lg,x.2.2=Ih id->reach ops 4 q.o x.1=Y
theorem lX.none:∀{l:List Rec}{f:Fr}{m:Mem},(∀q∈l,q.kl=[])->lX ops f m l
 |[],_,_,_=>trivial
 |r::l,f,m,h=>⟨λq hq id⟨b,hid⟩=>av,lX.none λq hq=>h q (by simp[hq])⟩
theorem oF(hE:mn E)(hY:yZ E.P E.aQ E.fn.ntmps E.yl w0){mode:Nat}(rZ:mode=1\/mode=2):∀(fuel:Nat){R:Type}{A:List (Nat×Bool)}{l:List (Nat×Oper)}{f:Fr}{m:Mem}{lg:Log}{k:Fr->Mem->Option R}{r:R},dt E ops mode fuel R A l f m lg k=U r->(∀x∈l,ops[x.1]?=U x.2)->(mode=1->∀x∈l,gZ x.2=Y)->anW ops A l->∀F:Fr,El f F->Ah E.fn.ntmps ops A F->(∀x∈l,∀t∈x.2.looksAt ops,f t=F t)->∃(recs:List Rec)(f':Fr),k f' (sQ m recs)=U r/\El f' (lf F recs)/\recs.map (λr=>(r.i,r.o))=l/\eB E ops w0 F m recs/\Vh (E:=E) ops mode F m lg recs
 |0,_,_,_,_,_,_,_,_,h,_,_,_,_,_,_,_=>by simp[dt]at h
 |fuel+1,R,A,[],f,m,lg,k,r,h,_,_,_,F,hF,_,_=>by simp only[dt]at h;exact⟨[],f,h,hF,rfl,trivial,ae,λ_=>.nil,ae,.nil,trivial,ae⟩
 |fuel+1,R,A,(i,o)::rest,f,m,lg,k,r,h,hl,hrk,Qe,F,hF,hA,XN=>by
  have hm1:(Nat.beq mode 1||Nat.beq mode 2)=true:=av
  simp only[dt,hm1]at h;split at h
  .rename_i hg;split at h
   .rename_i hd;have arU:∀x∈o.op.operands,cd E f x=cd E F x:=zI (XN (i,o) ae);split at h
    .rename_i kl ft sM;have anY:mode=2:=by
      rcases rZ with rfl|rfl
      .cases sM
      rfl
     subst anY;have sM:UQ E f m o=U (kl,ft):=sM;split at h
     .rename_i WX;simp only[T1,ayK]at WX;obtain⟨⟨av0,av1⟩,av2⟩:=WX;have⟨XO,v,wr,ft1,hk,hwr,jK,hn⟩:=aeT sM h;obtain⟨recs,f',c1,c2,c3,c4,c5⟩:=oF hE hY (.inr rfl) fuel hk (λx hx=>hl x (by simp[hx])) (λhm=>aa) (λx hx=>Qe x (by simp[hx])) (kV (kf kl F) o.dst v) ((El.kf (kl:=kl) hF).put _ _) (Ah.put (Ah.kf (kl:=kl) hA) λg yQ t ht=>Qe (i,o) ae g yQ t ht) (λx hx t ht=>by
       by_cases e:o.dst=U t
       .rw[e,k8,k8]
       grind [eL,K3])
      have nJ:∀q∈recs,reach ops 4 q.o i=true:=λq hq=>av2 (q.i,q.o) ao;have ak3:ops.toList.any (isApp E)=true:=azE.2 ⟨o,awU (by rw[ayQ];exact hl (i,o) ae),XO⟩;refine⟨⟨i,o,v,wr,ft,kl⟩::recs,f',c1,c2,by simp[c3],⟨aeU hE hY hg hA hd arU XO hn,λj b hb=>hwr _ hb,c4⟩,?_⟩;refine⟨λhm=>aa,λhm=>ay4.2 ⟨λq hq=>.inl (nJ q hq),c5.ord hm⟩,λhm q hq=>?_,ay4.2 ⟨λq hq _=>nJ q hq,c5.kl⟩,⟨λq hq BE _=>.inl (nJ q hq),c5.cln⟩,λq hq BE hid=>?_⟩
      .rcases aye.1 hq with rfl|hq
       .exact Mz av0
       .exact λy hy x hx=>c5.log hm q hq y hy x (ayq.2 (.inr hx))
      .rcases aye.1 hq with rfl|hq
       .obtain⟨bb,hid⟩:=hid;exact⟨rfl,ak3,jK _ hid,Qo (av1 _ hid)⟩
       .obtain⟨g1,g2,g3,g4⟩:=c5.nam q hq BE hid;exact⟨g1,g2,g3,λx hx=>g4 x (ayq.2 (.inr hx))⟩
     .cases h
    .rcases U8 hE h with⟨v,f1,m1,ft,hk,TA⟩|⟨Gk,_⟩
     rotate_left
     .cases Gk
     have⟨W4,wr,arV,hwr,hn⟩:=TA.drawn rfl;subst W4;have ZZ:∀(f2:Fr)(m2:Mem),(∀x∈o.op.operands,cd E f2 x=cd E F x)->(∀x∈ft,m2 x.2=m x.2)->∀(R':Type)(k':V->Fr->Mem->bS->Option R'),WU E Y (dm E o.dst) o f2 m2 k'=k' v f2 (BN wr m2) ft:=λf2 m2 hf=>hn f2 m2 λx hx=>by rw[hf x hx,arU x hx]
     have step:∀(wr':List (Nat×cS))(lg':Log),BN wr' m=m1->(mode=1->wr'=[])->(∀id b,(id,b)∈wr'->(Y,id)∈ft)->Ql E ops w0 ⟨i,o,v,wr',ft,[]⟩ F m->dt E ops mode fuel R A rest (kV f1 o.dst v) m1 lg' k=U r->(mode=2->lg'=(bif ops.toList.any (isApp E)then(OU ops o f1 m m1 v ft).map (λn=>(i,J,Ih n))else[])++(ft.map (λx=>(i,x))++lg)/\Mi ops o lg ft=Y)->∃(recs:List Rec)(f':Fr),k f' (sQ m recs)=U r/\El f' (lf F recs)/\recs.map (λr=>(r.i,r.o))=(i,o)::rest/\eB E ops w0 F m recs/\Vh (E:=E) ops mode F m lg recs:=by
      intro wr' lg' hwm hw1 hw2 XK hev hlg;obtain⟨recs,f',c1,c2,c3,c4,c5⟩:=oF hE hY rZ fuel hev (λx hx=>hl x (by simp[hx])) (λhm x hx=>hrk hm x (by simp[hx])) (λx hx=>Qe x (by simp[hx])) (kV F o.dst v) (hF.put _ _) (Ah.put hA λg yQ t ht=>Qe (i,o) ae g yQ t ht) (λx hx t ht=>by
       by_cases e:o.dst=U t
       .rw[e,k8,k8]
       grind [eL])
      subst hwm;refine⟨⟨i,o,v,wr',ft,[]⟩::recs,f',c1,c2,by simp[c3],⟨XK,hw2,c4⟩,?_⟩;have arW:mode=2->∀x∈lg,x∈lg':=λhm x hx=>av
      have amX:mode=2->∀x∈ft,(i,x)∈lg':=λhm x hx=>av
      refine⟨λhm q hq=>?_,λhm=>ay4.2 ⟨λq hq=>?_,c5.ord hm⟩,λhm q hq=>?_,ay4.2 ⟨λq hq h=>absurd rfl h,c5.kl⟩,⟨λq hq id hid=>?_,c5.cln⟩,λq hq id hid=>?_⟩
      .rcases aye.1 hq with rfl|hq
       .exact⟨hw1 hm,rfl⟩
       .exact c5.one hm q hq
      .have d2:=c5.log hm;by_cases he:reach ops 4 q.o i=Y
       .exact .inl he
       .refine .inr ⟨λid b hb x hx hxi=>?_,λid b hb x hx hxi=>?_⟩
        .grind
        .rcases d2 q hq (Y,id) (eB.wr c4 q hq id b hb) (i,x) (amX hm x hx)with h|h|h
         .exact h hxi.symm
         .cases h.1
         .exact he h
      .rcases aye.1 hq with rfl|hq
       .exact Mz (hlg hm).2
       .exact λy hy x hx=>c5.log hm q hq y hy x (arW hm x hx)
      .obtain⟨g1,g2,g3,g4⟩:=c5.nam q hq id hid;by_cases he:reach ops 4 q.o i=Y
       .exact .inl he
       .refine .inr (ahF (XN (i,o) ae) hw2 (λbt=>he (g4 (i,J,Ih id) ?_ rfl)) λx hx hxi=>?_)
        .grind
        .rcases c5.log g1 q hq (Y,id) g3 (i,x) (amX g1 x hx)with h|h|h
         .exact h hxi.symm
         .cases h.1
         .exact he h
      .rcases aye.1 hq with rfl|hq
       .obtain⟨_,hid⟩:=hid;cases hid
       .obtain⟨g1,g2,g3,g4⟩:=c5.nam q hq id hid;grind
     rcases rZ with rfl|rfl
     .simp only[Nat.beq,AI,OF]at hk;split at hk
      .rename_i hqf;have hwn:wr=[]:=by
        cases wr with
        |nil=>rfl
        |cons x l=>have:=JP hqf _ (hwr x ae);cases this
       subst hwn;exact step [] lg arV.symm (λ_=>rfl) ae (Qn hE hg hA hd ae ZZ) hk ae
      .cases hk
     .simp only[Nat.beq,By]at hk;split at hk
      next hof=>exact step wr _ arV.symm ae (λid b hb=>hwr _ hb) (Qn hE hg hA hd hwr ZZ) hk λ_=>⟨rfl,hof⟩
      .cases hk
   .cases h
  .rename_i j OJ hg;split at h
   .rename_i tj htj;split at h
    .rename_i b hb;generalize sM:Nz A ((i,o)::rest)=sp at h;obtain⟨body,Xi⟩:=sp;have sP:=Qd sM;have hm0:Nat.beq mode 0=false:=by rcases rZ with rfl|rfl<;>rfl
     simp only[hm0,azL,AI,OF]at h;split at h
     .rename_i ip p sG;split at h
      .rename_i c x y ahw;split at h
       .rename_i hc;simp only[T1,ayK,ayx,aAg,aBg]at hc;obtain⟨⟨⟨⟨⟨⟨aaH,hpg⟩,TB⟩,hgi⟩,av3⟩,hpd⟩,dC⟩:=hc;have anZ:mode=1:=av
        subst anZ;have aaH:=T0 aaH;subst aaH;have hpg:guardOf p A=none:=by simpa using hpg
        have⟨rb,hrb,h⟩:=IS.1 h;have bt:∀z∈body,z∈(i,o)::rest:=λz hz=>by rw[sP];simp[hz]
        have Jk:∀z∈sG,z∈(i,o)::rest:=λz hz=>by rw[sP];simp[hz]
        have acZ:(ip,p)∈(i,o)::rest:=by rw[sP];simp
        have⟨avV,hb⟩:=Qb hb;have hFc:F c=.pv (.bool b):=by
         rcases hF c with e|e
         .rw[<-e];omega
         simp_all
        have after:∀(BT:List Rec)(q:Operand),BT.map (λr=>(r.i,r.o))=body->eB E ops w0 F m BT->(∀q∈BT,q.wr=[]/\q.kl=[])->cd E (lf F BT) q=.pv (.bool rb)->(q=if b then x else y)->∃(recs:List Rec)(f':Fr),k f' (sQ m recs)=U r/\El f' (lf F recs)/\recs.map (λr=>(r.i,r.o))=body++(ip,p)::sG/\eB E ops w0 F m recs/\(∀q∈recs,q.wr=[]/\q.kl=[]):=by
         intro BT q av4 arX hwn hq hqe;have ahH:∀t,(∀z∈body,z.2.dst≠U t)->lf F BT t=F t:=λt ht=>TD λq hq=>⟨ht (q.i,q.o) ao,(hwn q hq).2⟩;have hA1:Ah E.fn.ntmps ops A (lf F BT):=λg yQ=>by have⟨t,h1,h0,h2⟩:=hA g yQ;exact⟨t,h1,h0,by rw[ahH t λz hz=>Qe z (bt z hz) g yQ t h1];omega⟩
         have WZ:lf F BT c=.pv (.bool b):=ao
         have hrp:Ql E ops w0 ⟨ip,p,.pv (.bool rb),[],[],[]⟩ (lf F BT) m:=Qn hE hpg hA1 hpd ae λf2 m2 hf hm R' k'=>by
          have yO:cd E f2 (.tmp c)=.pv (.bool b):=by simp_all[Op.operands,ak0]
          have hq2:cd E f2 q=.pv (.bool rb):=by grind [Op.operands]
          rw[XG ahw yO,<-hqe,hq2];rfl
         obtain⟨recs,f',c1,c2,c3,c4,c5⟩:=oF hE hY (.inl rfl) fuel h (λz hz=>hl z (Jk z hz)) (λhm z hz=>hrk hm z (Jk z hz)) (λz hz=>Qe z (Jk z hz)) (kV (lf F BT) p.dst (.pv (.bool rb))) (El.put (Ix λt ht=>by rw[ahH t ht];exact hF t) _ _) (Ah.put hA1 λg yQ t ht=>Qe (ip,p) acZ g yQ t ht) (λz hz t ht=>by
          by_cases e:p.dst=U t
          .rw[e,k8,k8]
          .have hnb:∀u∈body,u.2.dst≠U t:=λu hu hud=>by grind [blind,List.all_eq_true,Bool.not_eq_true']
           grind [eL,k9])
         have hmB:sQ m BT=m:=TJ hwn;refine⟨BT++⟨ip,p,.pv (.bool rb),[],[],[]⟩::recs,f',?_,?_,by simp[av4,c3],?_,λq hq=>?_⟩
         .rw[XJ,hmB];exact c1
         .rw[NZ];exact c2
         .refine eB.append.2 ⟨arX,?_⟩;rw[hmB];exact⟨hrp,ae,c4⟩
         .rcases ayq.1 hq with h|h
          .exact hwn q h
          .rcases aye.1 h with rfl|h
           .simp
           .exact c5.one rfl q h
        have fin:(∃(recs:List Rec)(f':Fr),k f' (sQ m recs)=U r/\El f' (lf F recs)/\recs.map (λr=>(r.i,r.o))=body++(ip,p)::sG/\eB E ops w0 F m recs/\(∀q∈recs,q.wr=[]/\q.kl=[]))->∃(recs:List Rec)(f':Fr),k f' (sQ m recs)=U r/\El f' (lf F recs)/\recs.map (λr=>(r.i,r.o))=(i,o)::rest/\eB E ops w0 F m recs/\Vh (E:=E) ops 1 F m lg recs:=by rintro⟨recs,f',c1,c2,c3,c4,c5⟩;exact⟨recs,f',c1,c2,by rw[sP];omega,c4,λ_=>c5,λh=>aa,λh=>aa,ayY (R:=λ_ _=>True) (λ{q r}hq hr _ h=>absurd (c5 q hq).2 h) (List.pairwise_of_forall λ_ _=>trivial),lX.none λq hq=>(c5 q hq).2,λq hq id⟨_,hid⟩=>av⟩
        have go:∀q,b=OJ->(q=if b then x else y)->dt E ops 1 fuel Bool ((j,OJ)::A) body f m lg (λf _=>I6 (cd E f q))=U rb->∃(recs:List Rec)(f':Fr),k f' (sQ m recs)=U r/\El f' (lf F recs)/\recs.map (λr=>(r.i,r.o))=body++(ip,p)::sG/\eB E ops w0 F m recs/\(∀q∈recs,q.wr=[]/\q.kl=[]):=by
         intro q hbp hq hev;obtain⟨BT,f1,c1,c2,c3,c4,c5⟩:=oF hE hY (.inl rfl) fuel hev (λz hz=>hl z (bt z hz)) (λhm z hz=>hrk hm z (bt z hz)) (λz hz g yQ t ht=>by
          rcases aye.1 yQ with rfl|yQ
          .grind
          .exact Qe z (bt z hz) g yQ t ht) F hF (λg yQ=>by
          rcases aye.1 yQ with rfl|yQ
          .simp_all
          .exact hA g yQ) (λz hz=>XN z (bt z hz))
         refine after BT q c3 c4 (c5.one rfl) ?_ hq;grind [KZ,ahv]
        have no:∀q,b= !OJ->(q=if b then x else y)->I6 (cd E (cN f body) q)=U rb->∃(recs:List Rec)(f':Fr),k f' (sQ m recs)=U r/\El f' (lf F recs)/\recs.map (λr=>(r.i,r.o))=body++(ip,p)::sG/\eB E ops w0 F m recs/\(∀q∈recs,q.wr=[]/\q.kl=[]):=by intro q hbp hq hev;obtain⟨s1,s2⟩:=TI (E:=E) (w0:=w0) (m:=m) body F (λz hz=>(TB z hz).1.2) (KY htj hgi (λz hz=>hl z (bt z hz)) (λz hz=>(TB z hz).2) (by rw[hFc,hbp]) ae);refine after (body.map K4) q (by simp[K4,azS]) s1 (λu hu=>by obtain⟨z,_,rfl⟩:=ayl.1 hu;exact⟨rfl,rfl⟩) ?_ hq;rw[s2];have hv:=KZ hev;grind [El,cN,lS,Ix,EG,ahv]
        grind
       .cases h
      .cases h
     .cases h
    .cases h
   .cases h
theorem Cy{l:List Oper}:(i,o)∈(I l.length).zip l↔l[i]?=U o:=by
 rw[ayc];constructor
 .grind
 .intro h;refine⟨i,List.getElem?_zip_eq_some.2 ⟨?_,h⟩⟩;grind
theorem GJ:∀{l done:List (Nat×Oper)},yX ops done l=Y->(∀x∈l,∀d∈done,reach ops 4 x.2 d.1=Y\/d.2.apart ops x.2=Y)/\l.Pairwise (λq r=>reach ops 4 r.2 q.1=Y\/q.2.apart ops r.2=Y)/\∀x∈l,∀e∈x.2.after,Region.binds .any e=Y->e.on<x.1
 |[],_,_=>⟨ae,.nil,ae⟩
 |(i,o)::r,done,h=>by
  simp only[yX,T1]at h;obtain⟨⟨h1,h2⟩,h3⟩:=h;have⟨i1,i2,i3⟩:=GJ h3;have JI:∀{done:List (Nat×Oper)},Ii ops done o=Y->∀d∈done,reach ops 4 o d.1=Y\/d.2.apart ops o=true:=by
   intro done;induction done with
   |nil=>simp
   |cons x l ih=>intro h d hd;simp only[Ii,T1,ayj]at h;grind
  refine⟨λx hx d hd=>?_,ay4.2 ⟨λx hx=>i1 x hx (i,o) ae,i2⟩,λx hx e he hb=>?_⟩
  .grind
  .rcases aye.1 hx with rfl|hx
   .have:=ayK.1 h1 e (azQ.2 he);simp_all
   .exact i3 x hx e he hb
variable{rd:Option Nat}{l:List (Nat×Oper)}{base:Nat->Bool}{fuel:Nat}{Q:Exit->Act->World->Prop}
theorem XP(hE:mn E)(hY:yZ E.P E.aQ E.fn.ntmps E.yl w0){mode:Nat}(rZ:mode=1\/mode=2)(hrk:mode=1->∀x∈l,gZ x.2=Y){k:Fr->Mem->Option R}{r:R}(hmz:∀x∈l,ops[x.1]?=U x.2)(arY:(l.map Prod.fst).Pairwise (·≠·))(ac2:∀x∈l,base x.1=J)(ahD:∀i o,ops[i]?=U o->base i=J->(∀x∈l,x.1≠i)->(∀x∈l,reach ops 8 o x.1=Y)\/∃j,reach ops 8 o j=Y/\base j=J/\∀x∈l,x.1≠j)(ahI:∀x∈l,∀e∈x.2.after,Region.binds .any e=Y->base e.on=Y\/∃y∈l,y.1=e.on)(hi:yX ops [] l=Y)(h:dt E ops mode fuel R [] l f m [] k=U r)(hQ:∀(fuel:Nat)(listed:Array Bool),listed.size=ops.size->listed.toList.countP (λb=> !b)<=fuel->Ai ops listed->(∀i,ay listed i=Y↔base i=Y\/∃x∈l,x.1=i)->∀f' m' μ φ a w,k f' m'=U r->Rel E.P E.aQ E.fn.ntmps w0 μ φ f' m' a w->wpAnyIn (FR rd) 0 E.P .any ops Q fuel listed a w):∀(fuel:Nat)(listed:Array Bool),listed.size=ops.size->listed.toList.countP (λb=> !b)<=fuel->Ai ops listed->(∀i,ay listed i=Y↔base i=Y)->∀(μ:Ro)(φ:Nat->aT)(a:Act)(w:World),Rel E.P E.aQ E.fn.ntmps w0 μ φ f m a w->wpAnyIn (FR rd) 0 E.P .any ops Q fuel listed a w:=by
 intro arZ listed hs hc vR hb μ φ a w hR;obtain⟨recs,f',c1,c2,c3,c4,c5⟩:=oF (w0:=w0) hE hY rZ fuel h hmz hrk (by intro x hx g hg;cases hg) f (El.refl f) (by intro g hg;cases hg) (λ_ _ _ _=>rfl);have⟨_,i2,i3⟩:=GJ hi;have bt:∀q∈recs,(q.i,q.o)∈l:=λq hq=>ao
 have hof:∀x∈l,∃q∈recs,q.i=x.1:=λx hx=>ao
 have JI:recs.Pairwise λq r=>reach ops 4 r.o q.i=Y\/q.o.apart ops r.o=true:=ao
 have Sv:recs.Pairwise (aaJ (ops:=ops)):=by
  rcases rZ with hm|hm
  .exact ayY (λ{q r}hq hr _=>.inr ⟨λid b hb=>(by rw[(c5.one hm q hq).1]at hb;cases hb),λid b hb=>(by rw[(c5.one hm r hr).1]at hb;cases hb)⟩) JI
  .exact c5.ord hm
 refine ahC (E:=E) (w0:=w0) (recs:=recs) (f0:=f) (m0:=m) (base:=base) ?_ (λq hq=>hmz _ (bt q hq)) (λq hq=>ac2 _ (bt q hq)) (λi o ho hbi cO=>Or.elim (ahD i o ho hbi ao) (λh=>Or.inl ao) λh=>Or.inr ao) ?_ c5.kl c5.cln (λq hq e he FT=>⟨i3 _ (bt q hq) e he FT,?_⟩) c4 ?_ arZ listed hs hc vR (λi hi=>(hb i).2 hi) (λi hi=>Or.inl ((hb i).1 hi)) μ φ a w ?_
 .grind
 .refine List.Pairwise.imp (λ{q r}h=>?_) (List.Pairwise.and JI Sv);obtain⟨h1,h2⟩:=h;rcases h1 with h1|h1
  .exact .inl h1
  .rcases h2 with h2|h2
   .exact .inl h2
   .exact .inr ⟨h1,h2⟩
 .rcases ahI _ (bt q hq) e he FT with h1|⟨y,hy,h1⟩
  .exact Or.inl h1
  grind
 .intro amY ac4 hs2 Tc av5 yO μ2 φ2 a2 w2 Mq;refine hQ amY ac4 hs2 Tc av5 (λi=>?_) _ _ μ2 φ2 a2 w2 c1 (Mq.weaken c2);grind
 .have hS:∀q∈recs,ay listed q.i=false:=λq hq=>ao
  rw[show gI (ay listed) f recs=f from funext λt=>sd λq hq hs=>av,show iL (ay listed) m recs=m from funext λt=>vp λq hq hs=>av];omega
variable{x:Nat×Oper}
theorem mQ(hx:x∈(I ops.size).zip ops.toList):ops[x.1]?=U x.2:=by have:=(Cy (l:=ops.toList) (i:=x.1) (o:=x.2)).1 aa;simp_all
theorem Cz(ho:ops[i]?=U o):(i,o)∈(I ops.size).zip ops.toList:=by have:=(Cy (l:=ops.toList) (i:=i) (o:=o)).2 av;omega
theorem zip_fst:((I ops.size).zip ops.toList).map Prod.fst=I ops.size:=by rw[List.map_fst_zip ae]
variable{F:Fence}{n:Nat}{listed:Array Bool}
theorem aaL(hs:listed.size=ops.size)(uX:∀i o,ops[i]?=U o->ay listed i=Y)(hq:Q .normal a w):wpAnyIn F n P .any ops Q fuel listed a w:=by
 have hr:Region.ready .any ops listed=[]:=by apply aAu.2;intro j hj;obtain⟨h0,o,ho,_⟩:=mem_ready.1 hj;grind
 cases fuel with
 |zero=>exact⟨hr,hq⟩
 |succ fuel=>exact⟨λ_=>hq,λi hi=>by rw[hr]at hi;cases hi⟩
theorem xd(n j:Nat):ay (Array.replicate n J) j=false:=by simp only[ay,awW,Array.getElem?_replicate];split<;>rfl
theorem count_le(n:Nat):(Array.replicate n J).toList.countP (λb=> !b)<=n:=by grind [List.countP_le_length,Array.replicate]
theorem N0:Ai ops (Array.replicate ops.size J):=λi o _ h=>by rw[xd]at h;cases h
theorem zJ:x∈KJ E ops↔x∈(I ops.size).zip ops.toList:=by unfold KJ;grind
theorem ahJ:((KJ E ops).map Prod.fst).Pairwise (·≠·):=by
 have h0:(((I ops.size).zip ops.toList).map Prod.fst).Pairwise (·≠·):=by rw[zip_fst];exact List.pairwise_lt_range.imp Nat.ne_of_lt
 unfold KJ;cases E.Ma (2000000000000000000000000000000+E.fid)with
 |false=>exact h0
 |true=>
  simp only[cond_true,aya,ay9];refine⟨h0.sublist (List.filter_sublist.map _),h0.sublist (List.filter_sublist.map _),λa ha b hb e=>?_⟩;obtain⟨x,hx,rfl⟩:=ayl.1 ha;obtain⟨y,hy,rfl⟩:=ayl.1 hb;have⟨hx,px⟩:=ayr.1 hx;have⟨hy,py⟩:=ayr.1 hy;have hxy:x=y:=by have h1:=mQ hx;grind [mQ,Prod.ext,Option.some.inj]
  subst hxy;simp_all
theorem Qp(hE:mn E)(hY:yZ E.P E.aQ E.fn.ntmps E.yl w0){mode:Nat}(rZ:mode=1\/mode=2)(hrk:mode=1->∀o∈ops,gZ o=Y){k:Fr->Mem->Option R}{r:R}(hi:yX ops [] (KJ E ops)=Y)(h:dt E ops mode fuel R [] (KJ E ops) f m [] k=U r)(hR:Rel E.P E.aQ E.fn.ntmps w0 μ φ f m a w)(hQ:∀f' m' μ' φ' a' w',k f' m'=U r->Rel E.P E.aQ E.fn.ntmps w0 μ' φ' f' m' a' w'->Q .normal a' w'):wpAnyIn (FR rd) 0 E.P .any ops Q ops.size (Array.replicate ops.size J) a w:=by
 refine XP (w0:=w0) (base:=λ_=>J) hE hY rZ (λhm x hx=>hrk hm x.2 (aA7 (mQ (zJ.1 hx)))) (λx hx=>mQ (zJ.1 hx)) ahJ (λ_ _=>rfl) (λi o ho _ cO=>absurd rfl (cO _ (zJ.2 (Cz ho)))) (λx hx e he hb=>Or.inr ?_) hi h ?_ ops.size _ ae (count_le _) N0 (λi=>by rw[xd]) μ φ a w hR
 .obtain⟨_,_,i3⟩:=GJ hi;have h1:=i3 x hx e he hb;have h2:x.1<ops.size:=(auA.1 (mQ (zJ.1 hx))).1;exact⟨_,zJ.2 (Cz (aq5 (aa:e.on<ops.size))),rfl⟩
 .intro amY ac4 hs2 _ _ yO f' m' μ2 φ2 a2 w2 hk Mq;exact aaL hs2 (λi o ho=>(yO i).2 (Or.inr ⟨_,zJ.2 (Cz ho),rfl⟩)) (hQ _ _ _ _ _ _ hk Mq)
mutual
theorem Vi:∀{v u:V},v.same u=Y->v=u
 |.op i o,u,h=>by cases u<;>simp only[V.same,T1,AI]at h;rw[T0 h.1,T0 h.2]
 |.oe i a o,u,h=>by cases u<;>simp only[V.same,T1,AI]at h;rw[T0 h.1.1,T0 h.1.2,T0 h.2]
 |.os i,u,h=>by cases u<;>simp only[V.same,AI]at h;rw[T0 h]
 |.om i,u,h=>by cases u<;>simp only[V.same,AI]at h;rw[T0 h]
 |.yl i,u,h=>by cases u<;>simp only[V.same,AI]at h;rw[T0 h]
 |.it i,u,h=>by cases u<;>simp only[V.same,AI]at h;rw[T0 h]
 |.il,u,h=>by cases u<;>simp only[V.same,AI]at h;rfl
 |.fn f cs,u,h=>by cases u<;>simp only[V.same,T1,AI]at h;rw[T0 h.1,Qq h.2]
 |.pv p,u,h=>by
  cases u<;>try (cases p<;>simp[V.same]at h;done)
  rename_i q;cases p<;>cases q<;>first|rfl|(simp[V.same]at h;done)|(simp only[V.same,T1,tb]at h;rw[h.1,h.2])
 |.iJ _ _ _,u,h=>by cases u<;>simp[V.same]at h
 |.agg _,u,h=>by cases u<;>simp[V.same]at h
 |.b8 _,u,h=>by cases u<;>simp[V.same]at h
 |.top,u,h=>by cases u<;>simp[V.same]at h
theorem Qq:∀{vs us:List V},NA vs us=Y->vs=us
 |[],us,h=>by
  cases us with
  |nil=>rfl
  |cons _ _=>simp[NA]at h
 |v::vs,us,h=>by
  cases us with
  |nil=>simp[NA]at h
  |cons u us=>simp only[NA,T1]at h;rw[Vi h.1,Qq h.2]
end
mutual
theorem ahK:∀{p q:PV},p.Mj q=Y->p=q
 |.int k n,q,h=>by cases q<;>simp_all[PV.Mj]
 |.bool b,q,h=>by cases q<;>simp_all[PV.Mj]
 |.str s,q,h=>by cases q<;>simp_all[PV.Mj]
 |.agg cs,q,h=>by cases q<;>simp only[PV.Mj,AI]at h;rw[zd h]
 |.b8 cs,q,h=>by cases q<;>simp only[PV.Mj,AI]at h;rw[zd h]
 |.nL,q,h=>by cases q<;>simp_all[PV.Mj]
 |.rp cs,q,h=>by cases q<;>simp only[PV.Mj,AI]at h;rw[zd h]
 |.rs n cs,q,h=>by cases q<;>simp only[PV.Mj,AI,T1]at h;rw[T0 h.1,zd h.2]
 |.lJ n cs,q,h=>by cases q<;>simp only[PV.Mj,AI,T1]at h;rw[T0 h.1,zd h.2]
 |.sr,q,h=>by cases q<;>simp_all[PV.Mj]
 |.rm t ks vs,q,h=>by cases q<;>simp only[PV.Mj,AI,T1]at h;rw[T0 h.1.1,zd h.1.2,zd h.2]
 |.IU,q,h=>by cases q<;>simp_all[PV.Mj]
 |.fn f cs,q,h=>by cases q<;>simp only[PV.Mj,AI,T1]at h;rw[T0 h.1,zd h.2]
 |.ifc b,q,h=>by cases q<;>simp_all[PV.Mj]
 |.bad,q,h=>by cases q<;>simp_all[PV.Mj]
theorem zd:∀{cs ds:List PV},JB cs ds=Y->cs=ds
 |[],ds,h=>by cases ds<;>simp_all[JB]
 |c::cs,ds,h=>by
  cases ds with
  |nil=>simp[JB]at h
  |cons d ds=>simp only[JB,T1]at h;rw[ahK h.1,zd h.2]
end
mutual
theorem ahL:∀p:PV,p.Mj p=Y
 |.int k n=>by simp[PV.Mj]
 |.bool b=>by simp[PV.Mj]
 |.str s=>by simp[PV.Mj]
 |.agg cs=>se cs
 |.b8 cs=>se cs
 |.nL=>rfl
 |.rp cs=>se cs
 |.rs n cs=>by simp[PV.Mj,se cs]
 |.lJ n cs=>by simp[PV.Mj,se cs]
 |.sr=>rfl
 |.rm t ks vs=>by simp[PV.Mj,se]
 |.IU=>rfl
 |.fn f cs=>by simp[PV.Mj,se cs]
 |.ifc b=>by simp[PV.Mj]
 |.bad=>rfl
theorem se:∀cs:List PV,JB cs cs=Y
 |[]=>rfl
 |c::cs=>by simp[JB,ahL,se]
end
theorem an0{u:V}{x:Option R}{r:R}(h:eqK v u x=U r):x=U r/\v=u/\v≠.top:=by unfold eqK at h;grind [eqP,ahK,NA,Qq,Vi,V.same]
theorem Vj{R:Type}{f0 f1:Fr}{x:Option R}{r:R}:∀{l:List (Nat×Oper)},aah l f0 f1 x=U r->x=U r/\∀y∈l,∀d,y.2.dst=U d->f0 d=f1 d/\f0 d≠.top
 |[],h=>⟨h,ae⟩
 |y::l,h=>by
  simp only[aah]at h;cases hd:y.2.dst with
  |none=>rw[hd]at h;obtain⟨h1,h2⟩:=Vj (l:=l) h;grind
  |some d0=>rw[hd]at h;have⟨h0,h3,h4⟩:=an0 h;obtain⟨h1,h2⟩:=Vj (l:=l) h0;grind
theorem ac5:∀{kl:Kl}{f:Fr}{t:Nat},kf kl f t=f t\/kf kl f t=.top
 |[],_,_=>.inl rfl
 |(Y,id)::r,f,t=>by
  rcases ac5 (kl:=r) (f:=ga id f) (t:=t)with h|h
  .rw[kf,h];unfold ga zN;cases(f t).has id<;>simp
  .exact .inr (by rw[kf,h])
 |(J,id)::r,f,t=>by
  rcases ac5 (kl:=r) (f:=jr id f) (t:=t)with h|h
  .rw[kf,h];unfold jr sF;cases(f t).F8 id<;>simp
  .exact .inr (by rw[kf,h])
theorem ac6{t:Nat}:∀{l:List Rec}{f:Fr},(∀q∈l,q.o.dst≠U t)->lf f l t=f t\/lf f l t=.top
 |[],_,_=>.inl rfl
 |r::l,f,h=>by
  have h0:r.fs f t=f t\/r.fs f t=.top:=by unfold Rec.fs;rw[eL (h r ae)];exact ac5
  rw[lf];rcases ac6 (l:=l) (f:=r.fs f) λq hq=>h q (by simp[hq])with e|e
  .rw[e];exact h0
  .exact .inr e
theorem eB.still:∀{l:List Rec}{f:Fr}{m:Mem},eB E ops w0 f m l->∀q∈l,qS q.o=Y->isApp E q.o=J->q.wr=[]/\q.kl=[]
 |[],_,_,_,_,hq=>by cases hq
 |r::l,f,m,h,q,hq=>by
  rcases aye.1 hq with rfl|hq
  .exact λh1 h2=>(h.1.1 h1 h2).1
  .exact eB.still h.2.2 q hq
theorem Ak(h:Pv ops x=Y){j:Nat}{d:Nat}(ho:ops[j]?=U o)(hd:x.2.dst=U d)(hod:o.dst=U d):x.1=j:=by have:=ayK.1 h (j,o) (Cz ho);simp_all
theorem an1{P:Nat->Prop}(vR:∀i o,ops[i]?=U o->P i->∀e∈o.after,Region.binds .any e=Y->P e.on):∀(n:Nat)(o:Oper)(j:Nat),(∀e∈o.after,Region.binds .any e=Y->P e.on)->reach ops n o j=Y->P j:=by
 have ak1:∀(o:Oper)(j:Nat),(∀e∈o.after,Region.binds .any e=Y->P e.on)->JA o j=Y->P j:=λo j ho h=>by obtain⟨e,he,hb,rfl⟩:=TE h;exact ho e he hb
 intro n;induction n with
 |zero=>exact λo j ho h=>ak1 o j ho h
 |succ n ihn=>intro o j ho h;simp only[reach,ayj]at h;grind
theorem Qr(h:o.after.isEmpty=Y)(n j:Nat):reach ops n o j=false:=by
 have he:o.after= #[]:=by simpa using h
 cases n<;>simp[reach,JA,he]
variable{K:Act->World->Prop}{T:Nat->Value->Prop}
theorem Oper.aaM(hT:∀d,o.dst≠U d->T d (a.tmps.getD d undef))(hh:o.wpIn F n P a w K Q):o.wpIn F n P a w (λa' w'=>K a' w'/\∀d,o.dst≠U d->T d (a'.tmps.getD d undef)) Q:=by
 have hp:∀(ds:List Deferred)v d,o.dst≠U d->T d (((⟨a.tmps,ds⟩:Act).put o.dst v).tmps.getD d undef):=λds v d hd=>by
  have h:=hT d hd;cases hds:o.dst with
  |none=>exact h
  |some d0=>simp_all[Act.put,awW,ayw,IT]
 simp_all[Oper.wpIn,Oper.uponIn,CallsIn.mono,RowsIn.mono,RoundIn.mono]
theorem Vk(ho:ops[i]?=U o)(hT:∀d,o.dst≠U d->T d (a.tmps.getD d undef))(hh:wpOpIn F n P ops Q i K a w):wpOpIn F n P ops Q i (λa' w'=>K a' w'/\∀d,o.dst≠U d->T d (a'.tmps.getD d undef)) a w:=by
 unfold wpOpIn at*;rw[ho]at hh⊢;simp only at hh⊢;split
 next hw=>rw[BY hw]at hh;exact Oper.aaM hT hh
 .rename_i hw;rw[IT hw]at hh;refine⟨hh.1,hh.2,λd hd=>?_⟩;have h:=hT d hd;cases hds:o.dst with
  |none=>simp only[Act.put];omega
  |some d0=>simp_all[Act.put,awW,ayw,IT]
theorem amZ{J10:Array Bool->Act->World->Prop}(hJ:∀listed a w,J10 listed a w->listed.size=ops.size)(Jl:∀listed a w,J10 listed a w->Region.ready .any ops listed=[]->Q .normal a w)(TA:∀fuel listed a w,listed.toList.countP (λb=> !b)<=fuel+1->J10 listed a w->∀i o,ops[i]?=U o->ay listed i=J->i<listed.size->(∀e∈o.after,Region.binds .any e=Y->ay listed e.on=Y)->wpOpIn F n P ops Q i (J10 (listed.setIfInBounds i Y)) a w\/wpOpIn F n P ops Q i (wpAnyIn F n P .any ops Q fuel (listed.setIfInBounds i Y)) a w):∀(fuel:Nat)(listed:Array Bool)(a:Act)(w:World),listed.toList.countP (λb=> !b)<=fuel->J10 listed a w->wpAnyIn F n P .any ops Q fuel listed a w:=by
 intro fuel;induction fuel with
 |zero=>
  intro listed a w hc hj;have hr:Region.ready .any ops listed=[]:=by
   apply aAu.2;intro j hjm;obtain⟨h0,o,ho,_⟩:=mem_ready.1 hjm;have bX:j<listed.size:=ao
   have:=aAz.1 (aBw.1 hc) listed[j] ae;simp_all
  exact⟨hr,Jl _ _ _ hj hr⟩
 |succ fuel ih=>
  intro listed a w hc hj;refine⟨Jl _ _ _ hj,λi hi=>?_⟩;obtain⟨hun,o,ho,Aj⟩:=mem_ready.1 hi;have My:i<listed.size:=ao
  have hSi:ay listed i=false:=av
  rcases TA fuel listed a w hc hj i o ho hSi My Aj with h|h
  .refine wpOpIn_mono (λa' w' W3=>ih _ a' w' ?_ W3) h;rw[azh,aAA aa];simp_all
  omega
def an2(E:Env)(ops:Array Oper)(x:Nat×Oper):Prop:=ops[x.1]?=U x.2/\qS x.2=Y/\isApp E x.2=J/\Pv ops x=Y
theorem vU{E:Env}(h:qS o=Y)(h2:sw E o=Y):False:=by grind [guard,qS,sw]
variable{recs:List Rec}{fl IY:List (Nat×Oper)}{f0:Fr}{L:Nat->Bool}
theorem aeV{f':Fr}(nJ:∀r∈recs,ops[r.i]?=U r.o)(cO:recs.Pairwise λq r=>q.i≠r.i)(gW:eB E ops w0 (cN f0 (fl++IY)) m recs)(OP:∀x∈fl,an2 E ops x)(an3:∀x∈IY,ops[x.1]?=U x.2/\sw E x.2=Y)(hL:∀r∈recs,L r.i=Y->∃x∈fl,x.1=r.i)(Tc:El f' (lf (cN f0 (fl++IY)) recs))(an4:∀y∈fl,∀d,y.2.dst=U d->f0 d=f' d/\f0 d≠.top)(hR:Rel E.P E.aQ E.fn.ntmps (hB w0 H) μ φ (cN f0 ((fl.filter λx=> !L x.1)++IY)) m a w):Rel E.P E.aQ E.fn.ntmps (hB w0 H) μ φ (gI L (cN f0 (fl++IY)) recs) (iL L m recs) a w:=by
 have hof:∀r∈recs,L r.i=Y->(r.i,r.o)∈fl/\r.wr=[]/\r.kl=[]:=λr hr hl=>by have⟨x,hx,e⟩:=hL r hr hl;have⟨h1,h2,h3,_⟩:=OP x hx;rw[e,nJ r hr]at h1;have e2:x=(r.i,r.o):=Prod.ext e (ayH h1).symm;subst e2;exact⟨hx,gW.still r hr h2 h3⟩
 rw[show iL L m recs=m from funext λt=>vp λq hq hs=>by have⟨_,h1,h2⟩:=hof q hq hs;exact⟨by simp[h1],λid⟨b,hid⟩=>av⟩];refine hR.weaken λt=>?_;by_cases hex:∃q∈recs,L q.i=Y/\q.o.dst=U t
 .obtain⟨q,hq,hs,hd⟩:=hex;have⟨hqf,hw,hk⟩:=hof q hq hs;obtain⟨_,hqk,_,huq⟩:=OP _ hqf;have hun:∀q'∈recs,q'.o.dst=U t->q'.i=q.i:=λq' Sa hd'=>(Ak huq (nJ q' Sa) hd hd').symm;obtain⟨pre,post,sM⟩:=List.append_of_mem hq;have hpo:∀q'∈post,q'.o.dst≠U t:=λq' Sa hd'=>ao
  have hv:f0 t=q.v:=by
   obtain⟨h1,h2⟩:=an4 _ hqf t hd;rcases Tc t with h3|h3
   .rw[sM,NZ,lf]at h3;rcases ac6 (l:=post) (f:=q.fs (lf (cN f0 (fl++IY)) pre)) hpo with h4|h4
    .rw[h1,h3,h4,Rec.Qi hd]
    simp_all
   simp_all
  left;have e1:gI L (cN f0 (fl++IY)) recs t=q.v:=by rw[sM,BS,gI,hs];simp only[cond];rw[sd λq' Sa hs'=>⟨hpo q' Sa,λid⟨b,hid⟩=>av⟩,Rec.Qi hd]
  rw[e1,k9 λx hx hxd=>?_,hv];rcases ayq.1 hx with hx|hx
  .obtain⟨hx1,hx2⟩:=ayr.1 hx;have⟨k1,_,_,k4⟩:=OP x hx1;grind [Ak]
  .obtain⟨k1,k2⟩:=an3 x hx;have:=Ak huq k1 hd hxd;grind [Option.some.inj,vU]
 .have e1:gI L (cN f0 (fl++IY)) recs t=cN f0 (fl++IY) t:=sd λq hq hs=>⟨λhd=>hex ⟨q,hq,hs,hd⟩,λid⟨b,hid⟩=>av⟩;rw[e1];by_cases hx:∃x∈fl++IY,x.2.dst=U t
  .right;exact rY (.inr hx)
  .left;rw[k9 λx L6 hxd=>hx ⟨x,L6,hxd⟩,k9 λx L6 hxd=>hx ⟨x,ao,hxd⟩]
structure GK(E:Env)(H0 H:Ro)(al:List (Nat×Oper))(L:Nat->Bool)(a:Act):Prop where
 le:∀g o,H0 g=U o->H g=U o
 pt:∀x∈al,L x.1=Y->∃d t c g,x.2.op=.alloc t/\x.2.dst=U d/\ahz E t c/\a.tmps.getD d undef=.pointer (U ⟨g,0,Z⟩)/\H g=U (.cells c t)/\H0 g=Z
 inj:∀x∈al,∀y∈al,L x.1=Y->L y.1=Y->x.1≠y.1->∀d e,x.2.dst=U d->y.2.dst=U e->a.tmps.getD d undef≠a.tmps.getD e undef
variable{a':Act}
theorem GK.sub{H0:Ro}{al al':List (Nat×Oper)}{L':Nat->Bool}(h:GK E H0 H al L a)(hs:∀x∈al',x∈al)(hL:∀x∈al',L' x.1=Y->L x.1=Y)(ht:∀x∈al',∀d,x.2.dst=U d->a'.tmps.getD d undef=a.tmps.getD d undef):GK E H0 H al' L' a':=⟨h.le,λx hx hl=>by
  have⟨d,t,c,g,h1,h2,h3,h4,h5⟩:=h.pt x (hs x hx) (hL x hx hl);grind,λx hx y hy hlx hly cO d e hd he=>by
  rw[ht x hx d hd,ht y hy e he];exact h.inj x (hs x hx) y (hs y hy) (hL x hx hlx) (hL y hy hly) cO d e hd he⟩
theorem aeW{m0:Mem}{H0:Ro}(bX:recs.Pairwise λq r=>q.i≠r.i)(nJ:∀r∈recs,ops[r.i]?=U r.o)(Su:recs.Pairwise (Ord ops))(jK:recs.Pairwise λq r=>q.kl≠[]->reach ops 4 r.o q.i=Y)(Vc:lX ops f0 m0 recs)(gW:eB E ops w0 f0 m0 recs)(JN:∀q∈recs,L q.i=Y->sw E q.o=Y\/∀r∈recs,sw E r.o=Y->reach ops 4 q.o r.i=J):∀(todo:List Rec)(IY:List (Nat×Oper)),(∀r∈todo,r∈recs/\sw E r.o=Y/\L r.i=Y/\(r.i,r.o)∈IY)->todo.Pairwise (λq r=>q.i≠r.i)->∀(H:Ro)(μ:Ro)(φ:Nat->aT)(a:Act)(w:World),GK E H0 H IY L a->Rel E.P E.aQ E.fn.ntmps (hB w0 H) μ φ (gI (λi=>L i&& !todo.any λr=>r.i==i) f0 recs) (iL (λi=>L i&& !todo.any λr=>r.i==i) m0 recs) a w->∃H' φ',GK E H0 H' (IY.filter λx=> !todo.any λr=>r.i==x.1) L a/\Rel E.P E.aQ E.fn.ntmps (hB w0 H') μ φ' (gI L f0 recs) (iL L m0 recs) a w:=by
 intro todo;induction todo with
 |nil=>intro IY _ _ H μ φ a w hE hR;exact⟨H,φ,hE.sub (λx hx=>(ayr.1 hx).1) (λ_ _ h=>h) (λ_ _ _ _=>rfl),by simpa using hR⟩
 |cons r todo ih=>
  intro IY av6 cO H μ φ a w Sd hR;have⟨hr,hk,hl,hp⟩:=av6 r ae;have⟨avL,arM⟩:=ay4.1 cO;obtain⟨d,t,c,g,p1,p2,p3,p4,p5,p6⟩:=Sd.pt _ hp hl;have av7:r.o.after.isEmpty=true:=by simp_all[sw,T1]
  obtain⟨f1,m1,XK,Z5,dC,hS⟩:=TF bX Su jK Vc gW (S:=λi=>L i&& !(r::todo).any λr=>r.i==i) hr ae (λq _ h=>by rw[Qr av7]at h;cases h) (λq hq h=>by
   cases hc:(L q.i&& !(r::todo).any λr=>r.i==q.i)with
   |false=>rfl
   |true=>
    simp only[T1]at hc;rcases JN q hq hc.1 with h1|h1
    .have:q.o.after.isEmpty=true:=by simp_all[sw,T1]
     rw[Qr this]at h;cases h
    simp_all)
  obtain⟨e1,e2⟩:=hS (λi=>L i&& !todo.any λr=>r.i==i) λj=>ao
  obtain⟨φ1,L5⟩:=(XK.2.1 hk).2 _ _ Z5 dC H μ φ a w d t c g hR p1 p2 p3 p4 p5;rw[<-e1,<-e2]at L5;have hE2:GK E H0 (Vb H g) (IY.filter λx=> !(r.i==x.1)) L a:=by
   refine⟨λk o hk=>?_,λx hx hlx=>?_,λx hx y hy=>Sd.inj x (ayr.1 hx).1 y (ayr.1 hy).1⟩
   .unfold Vb;rw[IT λe=>ao];exact Sd.le k o hk
   .obtain⟨hx1,hx2⟩:=ayr.1 hx;have⟨d',t',c',g',q1,q2,q3,q4,q5,q6⟩:=Sd.pt x hx1 hlx;refine⟨d',t',c',g',q1,q2,q3,q4,?_,q6⟩;unfold Vb;rw[IT λe=>?_]
    .omega
    .subst e;have cO:x.1≠r.i:=λe=>by simp[e]at hx2
     exact Sd.inj x hx1 (r.i,r.o) hp hlx hl cO d' d q2 p2 (q4.trans p4.symm)
  have av8:∀q∈todo,q∈recs/\sw E q.o=Y/\L q.i=Y/\(q.i,q.o)∈IY.filter λx=> !(r.i==x.1):=λq hq=>ao
  obtain⟨H',φ',k1,k2⟩:=ih _ av8 arM (Vb H g) μ φ1 a w hE2 L5;refine⟨H',φ',k1.sub (λx hx=>?_) (λ_ _ h=>h) (λ_ _ _ _=>rfl),k2⟩;grind
theorem aaN(H:Ro){m0:Mem}(bX:recs.Pairwise λq r=>q.i≠r.i)(nJ:∀r∈recs,ops[r.i]?=U r.o)(Su:recs.Pairwise (Ord ops))(jK:recs.Pairwise λq r=>q.kl≠[]->reach ops 4 r.o q.i=Y)(Vc:lX ops f0 m0 recs)(gW:eB E ops w0 f0 m0 recs)(amW:∀r∈recs,∀e∈r.o.after,Region.binds .any e=Y->e.on<r.i/\(base e.on=Y\/∃q∈recs,q.i=e.on)):∀(n:Nat)(listed:Array Bool),listed.size=ops.size->listed.toList.countP (λb=> !b)<=n->Ai ops listed->(∀i,base i=Y->ay listed i=Y)->(∀r∈recs,ay listed r.i=J->qS r.o=Y/\isApp E r.o=J)->∀(μ:Ro)(φ:Nat->aT)(a:Act)(w:World),Rel E.P E.aQ E.fn.ntmps (hB w0 H) μ φ (gI (ay listed) f0 recs) (iL (ay listed) m0 recs) a w->∃μ' φ' a',Rel E.P E.aQ E.fn.ntmps (hB w0 H) μ' φ' (lf f0 recs) (sQ m0 recs) a' w/\a'.defers=a.defers/\a'.tmps.size=a.tmps.size/\∀t,(∀q∈recs,ay listed q.i=J->q.o.dst≠U t)->a'.tmps.getD t undef=a.tmps.getD t undef:=by
 intro n;induction n with
 |zero=>
  intro listed hs hc vR hb OP μ φ a w hR;have hl:∀r∈recs,ay listed r.i=true:=λr hr=>by
   have bX:r.i<listed.size:=ao
   have:=aAz.1 (aBw.1 hc) listed[r.i] ae;simp only[ay,awW,aq5 bX,ayy];simpa using this
  rw[show gI (ay listed) f0 recs=lf f0 recs from funext λt=>DF rfl λq hq hf=>av,show iL (ay listed) m0 recs=sQ m0 recs from funext λt=>DG rfl λq hq hf=>av]at hR;grind
 |succ n ih=>
  intro listed hs hc vR hb OP μ φ a w hR;by_cases uX:∀r∈recs,ay listed r.i=Y
  .rw[show gI (ay listed) f0 recs=lf f0 recs from funext λt=>DF rfl λq hq hf=>av,show iL (ay listed) m0 recs=sQ m0 recs from funext λt=>DG rfl λq hq hf=>av]at hR;grind
  have ar0:∀N,(∃r∈recs,ay listed r.i=J/\r.i<N)->∃r∈recs,ay listed r.i=J/\∀e∈r.o.after,Region.binds .any e=Y->ay listed e.on=true:=by
   intro N;induction N with
   |zero=>omega
   |succ N ihN=>
    rintro⟨r,hr,hl,hN⟩;by_cases he:∀e∈r.o.after,Region.binds .any e=Y->ay listed e.on=Y
    .grind
    .simp only[Classical.not_forall]at he;obtain⟨e,he,FT,PO⟩:=he;have PO:ay listed e.on=false:=by simpa using PO
     have⟨h1,h2⟩:=amW r hr e he FT;rcases h2 with h2|⟨q,hq,hqi⟩
     .grind
     .exact ihN ⟨q,hq,by rw[hqi];omega,aa⟩
  have hun:∃r∈recs,ay listed r.i=false:=ao
  obtain⟨r0,hr0,W0⟩:=hun;have⟨r,hr,hl,Aj⟩:=ar0 (r0.i+1) ⟨r0,hr0,W0,aa⟩;have My:r.i<listed.size:=ao
  have⟨W4,Z5⟩:=OP r hr hl;have fL:=Qm (rd:=Z) (Q:=λ_ _ _=>False) H bX nJ Su jK Vc gW vR hr Aj My hl hR (K:=λa1 w1=>∃μ1 φ1,Rel E.P E.aQ E.fn.ntmps (hB w0 H) μ1 φ1 (gI (ay (listed.setIfInBounds r.i Y)) f0 recs) (iL (ay (listed.setIfInBounds r.i Y)) m0 recs) a1 w1) λμ1 φ1 a1 w1 h=>⟨μ1,φ1,h⟩;obtain⟨hwp,hy⟩:=fL;have⟨y,hy⟩:=hy W4 Z5;unfold wpOpIn at hwp;rw[nJ r hr]at hwp;simp only at hwp;have hgn:r.o.guard=none:=by simp only[qS,T1,aAa]at W4;exact W4.1
  have hw:Region.wanted r.o (yielded ops a.tmps)=true:=by unfold Region.wanted;rw[hgn]
  rw[BY hw]at hwp;have av9:∀c,r.o.op≠.defer c:=λc hc=>by simp[qS,hc]at W4
  have h3:=hwp.2;rw[Oper.semAt_eq _ _ _ av9,hy]at h3;obtain⟨μ1,φ1,L5⟩:=h3;have hS':∀j,ay (listed.setIfInBounds r.i Y) j=if j=r.i then Y else ay listed j:=λj=>by simp only[ay,awW,ayw];grind
  obtain⟨μ2,φ2,a2,k1,k2,k3,k4⟩:=ih (listed.setIfInBounds r.i Y) (by simp[hs]) (by
   rw[azh,aAA aa];have:listed.toList[r.i]'(aa)=false:=by simp only[ay,awW,aq5 My,ayy]at hl;simpa using hl
   grind) (λi' o' ho' sC e he FT=>by
    rw[hS']at sC⊢;split
    .rfl
    .split at sC
     .grind
     .exact vR i' o' ho' sC e he FT) (λi' sC=>by
    grind) (λq hq hql=>OP q hq (by
    grind)) μ1 φ1 _ _ L5
  refine⟨μ2,φ2,a2,k1,?_,?_,λt ht=>?_⟩
  .rw[k2];cases r.o.dst<;>rfl
  .rw[k3];cases r.o.dst<;>simp[Act.put]
  .rw[k4 t λq hq hql=>ht q hq ao];have cO:=ht r hr hl;cases hd:r.o.dst with
   |none=>rfl
   |some d=>have hdt:d≠t:=λe=>cO (by rw[hd,e]);simp only[Act.put,awW,ayw];rw[IT hdt]
theorem Oper.aeX{K':Act->World->Prop}{Q':Exit->Act->World->Prop}(hc:∃c,o.op=.call c)(he:∀x∈o.op.operands,a'.eval x=a.eval x)(hd:a'.defers=a.defers)(hK:∀b b':Act,b.defers=b'.defers->b.tmps=a.tmps->b'.tmps=a'.tmps->∀v w2,K' (b'.put o.dst v) w2->K (b.put o.dst v) w2)(hQ:∀e a w,e≠.normal->Q' e a w->False)(h:o.wpIn F n P a' w K' Q'):o.wpIn F n P a w K Q:=by
 obtain⟨c,hc⟩:=hc;have ar1:∀c,o.op≠.defer c:=λc' h'=>by rw[hc]at h';cases h'
 unfold Oper.wpIn at*;rw[about_congr (ρ':=a.eval) o w he,Oper.semAt_eq _ _ _ ar1,execOp_congr (ρ':=a.eval) o (λ_ _ h'=>by rw[hc]at h';cases h') he]at h;rw[Oper.semAt_eq _ _ _ ar1];refine⟨h.1,?_⟩;have hh:=h.2;have hn:∀v w2,K' (a'.put o.dst v) w2->K (a.put o.dst v) w2:=hK a a' hd.symm rfl rfl;have ar2:¬LetsOut Q':=λ⟨a,w,hq⟩=>hQ _ _ _ ae hq;generalize (execOp a.eval o).run P w=r at*;cases r with
 |ok x w'=>
  cases x<;>simp only[Oper.uponIn]at hh⊢<;>first
   |exact hh
   |exact hn _ _ hh
   |exact hK {tmps:=a.tmps,defers:=_::a.defers} {tmps:=a'.tmps,defers:=_::a'.defers} (by simp[hd]) rfl rfl _ _ hh
   |exact⟨hh.1,RowsIn.mono hh.2 (λ_ _ he=>hn _ _ he)⟩
   |exact⟨hh.1,CallsIn.mono hh.2 (λe w'' he=>by cases e<;>first|exact(ar2 he).elim|exact(hQ _ _ _ ae he).elim|exact hn _ _ he)⟩
   |exact⟨hh.1,RoundIn.mono hh.2 (λe w'' he=>by cases e<;>first|exact(ar2 he).elim|exact(hQ _ _ _ ae he).elim|exact hn _ _ he)⟩
 |halt x w'=>cases x<;>simp only[Oper.uponIn]at hh⊢<;>first|exact(hQ _ _ _ ae hh).elim|exact hh
theorem Rel.swap{g:Fr}(h:Rel E.P E.aQ nt w0 μ φ f m a' w)(hs:a.tmps.size=a'.tmps.size)(hd:a.defers=a'.defers)(hg:∀t,g t=.top\/(g t=f t/\a.tmps.getD t undef=a'.tmps.getD t undef)):Rel E.P E.aQ nt w0 μ φ g m a w:=
 {toaR:=h.toaR,size:=hs.trans h.size,defers:=by rw[hd];exact h.defers,ow:=h.ow,fr:=λt=>by
   rcases hg t with e|⟨e,e2⟩
   .rw[e];exact .top
   .rw[e];have:=h.fr t;simp_all[cE],
  live:=λt id hid=>by
   rcases hg t with e|⟨e,_⟩
   .rw[e]at hid;cases hid
   .rw[e]at hid;exact h.live t id hid}
variable{done:List Nat}
theorem O0(h:Xn done l o=Y):∀e∈o.after,Region.binds .any e=Y->done.elem e.on=Y\/∃y∈l,y.1=e.on:=λe he hb=>by have:=ayK.1 h e (azQ.2 he);simp_all
structure ac7(E:Env)(ops:Array Oper)(w0:bI)(base:Nat->Bool)(f:Fr)(m:Mem)(recs:List Rec):Prop where
 lt:recs.Pairwise λq r=>q.i≠r.i
 inn:∀r∈recs,ops[r.i]?=U r.o
 bs:∀r∈recs,base r.i=J
 ord:recs.Pairwise (Ord ops)
 kl:recs.Pairwise λq r=>q.kl≠[]->reach ops 4 r.o q.i=Y
 cln:lX ops f m recs
 GL:∀r∈recs,∀e∈r.o.after,Region.binds .any e=Y->e.on<r.i/\(base e.on=Y\/∃q∈recs,q.i=e.on)
 ok:eB E ops w0 f m recs
theorem XQ(hE:mn E)(hY:yZ E.P E.aQ E.fn.ntmps E.yl w0)(hmz:∀x∈l,ops[x.1]?=U x.2)(arY:(l.map Prod.fst).Pairwise (·≠·))(ac2:∀x∈l,base x.1=J)(ahI:∀x∈l,∀e∈x.2.after,Region.binds .any e=Y->base e.on=Y\/∃y∈l,y.1=e.on)(hi:yX ops [] l=Y)(OP:∀x∈fl,an2 E ops x)(an3:∀x∈IY,ops[x.1]?=U x.2/\sw E x.2=Y)(hbc:∀i o,ops[i]?=U o->(base i=Y\/∃x∈fl,x.1=i)->∀e∈o.after,Region.binds .any e=Y->base e.on=Y\/∃x∈fl,x.1=e.on){r:R}{k:Fr->Mem->Option R}(h:dt E ops 2 n R [] l (cN f0 (fl++IY)) m [] (λf1 m1=>aah fl f0 f1 (k f1 m1))=U r):∃recs f',k f' (sQ m recs)=U r/\El f' (lf (cN f0 (fl++IY)) recs)/\recs.map (λr=>(r.i,r.o))=l/\ac7 E ops w0 base (cN f0 (fl++IY)) m recs/\∀(L:Nat->Bool)(H0 H:Ro)(μ:Ro)(φ:Nat->aT)(a:Act)(w:World),(∀i,L i=Y->base i=Y\/(∃x∈fl,x.1=i)\/∃x∈IY,x.1=i)->GK E H0 H IY L a->Rel E.P E.aQ E.fn.ntmps (hB w0 H) μ φ (cN f0 ((fl.filter λx=> !L x.1)++IY)) m a w->∃H' φ',GK E H0 H' (IY.filter λx=> !l.any λy=>y.1==x.1) L a/\Rel E.P E.aQ E.fn.ntmps (hB w0 H') μ φ' (gI L (cN f0 (fl++IY)) recs) (iL L m recs) a w:=by
 obtain⟨recs,f',c1,c2,c3,c4,c5⟩:=oF (w0:=w0) hE hY (.inr rfl) n h hmz (λh=>aa) (by intro x hx g hg;cases hg) (cN f0 (fl++IY)) (El.refl _) (by intro g hg;cases hg) (λ_ _ _ _=>rfl);have⟨c1,an4⟩:=Vj c1;have⟨_,i2,i3⟩:=GJ hi;have bt:∀q∈recs,(q.i,q.o)∈l:=λq hq=>ao
 have hof:∀x∈l,∃q∈recs,q.i=x.1:=λx hx=>ao
 have JI:recs.Pairwise λq r=>reach ops 4 r.o q.i=Y\/q.o.apart ops r.o=true:=ao
 have Sv:recs.Pairwise (aaJ (ops:=ops)):=c5.ord rfl;have fL:ac7 E ops w0 base (cN f0 (fl++IY)) m recs:=by
  refine⟨?_,λq hq=>hmz _ (bt q hq),λq hq=>ac2 _ (bt q hq),?_,c5.kl,c5.cln,λq hq e he FT=>⟨i3 _ (bt q hq) e he FT,?_⟩,c4⟩
  .grind
  .refine List.Pairwise.imp (λ{q r}h=>?_) (List.Pairwise.and JI Sv);obtain⟨h1,h2⟩:=h;rcases h1 with h1|h1
   .exact .inl h1
   .rcases h2 with h2|h2
    .exact .inl h2
    .exact .inr ⟨h1,h2⟩
  .rcases ahI _ (bt q hq) e he FT with h1|⟨y,hy,h1⟩
   .exact Or.inl h1
   grind
 refine⟨recs,f',c1,c2,c3,fL,λL H0 H μ φ a w hL Sd hR=>?_⟩;have Xu:∀q∈recs,L q.i=Y->((q.i,q.o)∈fl/\qS q.o=Y)\/((q.i,q.o)∈IY/\sw E q.o=Y):=λq hq hl=>by
  rcases hL _ hl with h1|⟨x,hx,e⟩|⟨x,hx,e⟩
  .grind
  .obtain⟨h1,h2,_⟩:=OP x hx;grind
  grind
 obtain⟨todo,axA⟩:∃todo,todo=recs.filter λr=>L r.i&&sw E r.o:=⟨_,rfl⟩;have htm:∀r,r∈todo↔r∈recs/\L r.i=Y/\sw E r.o=true:=λr=>av
 have ak3:∀q∈recs,L q.i=Y->((todo.any λr=>r.i==q.i)=Y↔sw E q.o=Y):=λq hq hl=>ao
 have hS0:Rel E.P E.aQ E.fn.ntmps (hB w0 H) μ φ (gI (λi=>L i&& !todo.any λr=>r.i==i) (cN f0 (fl++IY)) recs) (iL (λi=>L i&& !todo.any λr=>r.i==i) m recs) a w:=by
  refine aeV fL.inn fL.lt c4 OP an3 (λr hr hl=>?_) c2 an4 (hR.weaken λt=>?_)
  .grind
  .by_cases hx:∃x∈(fl.filter λx=> !(L x.1&& !todo.any λr=>r.i==x.1))++IY,x.2.dst=U t
   .right;exact rY (.inr hx)
   .left;rw[k9 λx L6 hxd=>hx ⟨x,L6,hxd⟩,k9 λx L6 hxd=>hx ⟨x,ao,hxd⟩]
 obtain⟨H',φ',k1,k2⟩:=aeW (H0:=H0) (L:=L) fL.lt fL.inn fL.ord fL.kl fL.cln c4 (λq hq hl=>by
  rcases Xu q hq hl with h|h
  .refine .inr λr hr hk=>?_;cases hx:reach ops 4 q.o r.i with
   |false=>rfl
   |true=>
    have h1:=an1 (P:=λi=>base i=Y\/∃x∈fl,x.1=i) hbc 4 q.o r.i (hbc _ _ (fL.inn q hq) (.inr ⟨_,h.1,rfl⟩)) hx;rcases h1 with h1|⟨x,hx,e⟩
    .grind
    .obtain⟨h1,h2,_⟩:=OP x hx;grind [Option.some.inj,vU]
  .exact .inl h.2) todo IY (λr hr=>by
  grind [vU]) ao H μ φ a w Sd hS0
 refine⟨H',φ',k1.sub (λx hx=>?_) (λ_ _ h=>h) (λ_ _ _ _=>rfl),k2⟩;grind
theorem ac8{p:Nat×Oper->Bool}:(((OK ops).filter p).map Prod.fst).Pairwise (·≠·):=by
 have h0:((OK ops).map Prod.fst).Pairwise (·≠·):=by unfold OK;rw[zip_fst];exact List.pairwise_lt_range.imp Nat.ne_of_lt
 grind
structure L7(E:Env)(ops:Array Oper)(w0:bI)(done:List Nat)(Kz:List (Nat×Oper))(f:Fr)(m:Mem)(recs:List Rec)(listed:Array Bool)(a:Act)(w:World):Prop where
 size:listed.size=ops.size
 cl:Ai ops listed
 ge:∀i,done.elem i=Y->ay listed i=Y
 le:∀i,ay listed i=Y->done.elem i=Y\/(∃r∈recs,r.i=i)\/∃x∈Kz,x.1=i
 rel:∃H μ φ,GK E w0.hid H Kz (ay listed) a/\Rel E.P E.aQ E.fn.ntmps (hB w0 H) μ φ (gI (ay listed) f recs) (iL (ay listed) m recs) a w
theorem iM(hi:i<listed.size)(j:Nat):ay (listed.setIfInBounds i Y) j=if j=i then Y else ay listed j:=by simp only[ay,awW,ayw];grind
variable{Kz:List (Nat×Oper)}
theorem L7.grow{w':World}(h:L7 E ops w0 done Kz f m recs listed a w)(ho:ops[i]?=U o)(hi:i<listed.size)(hed:∀e∈o.after,Region.binds .any e=Y->ay listed e.on=Y)(nJ:(∃r∈recs,r.i=i)\/∃x∈Kz,x.1=i)(hr:∃H μ φ,GK E w0.hid H Kz (ay (listed.setIfInBounds i Y)) a'/\Rel E.P E.aQ E.fn.ntmps (hB w0 H) μ φ (gI (ay (listed.setIfInBounds i Y)) f recs) (iL (ay (listed.setIfInBounds i Y)) m recs) a' w'):L7 E ops w0 done Kz f m recs (listed.setIfInBounds i Y) a' w':=by
 refine⟨by simp[h.size],λi' o' ho' sC e he FT=>?_,λj hj=>?_,λj hj=>?_,hr⟩
 .rw[iM hi]at sC⊢;split
  .rfl
  .split at sC
   .simp_all
   .exact h.cl i' o' ho' sC e he FT
 .rw[iM hi];split
  .rfl
  .exact h.ge j hj
 .rw[iM hi]at hj;split at hj
  .simp_all
  .exact h.le j hj
theorem XR{S:Nat->Bool}{t:Nat}:∀{l:List Rec}{f:Fr},f t=.top->(∀q∈l,q.o.dst≠U t)->gI S f l t=.top
 |[],_,h,_=>h
 |r::l,f,h,hq=>by
  rw[gI];refine XR ?_ λq Sa=>hq q (by simp[Sa]);cases S r.i with
  |false=>exact h
  |true=>
   show r.fs f t=.top;unfold Rec.fs;rw[eL (hq r ae)];rcases ac5 (kl:=r.kl) (f:=f) (t:=t)with e|e
   .rw[e,h]
   .exact e
theorem L7.step(fL:ac7 E ops w0 (λi=>done.elem i) f m recs)(OY:∀x∈Kz,ops[x.1]?=U x.2/\Pv ops x=Y/\∀r∈recs,r.i≠x.1)(h:L7 E ops w0 done Kz f m recs listed a w){r:Rec}(hr:r∈recs)(hl:ay listed r.i=J)(hi:r.i<listed.size)(hed:∀e∈r.o.after,Region.binds .any e=Y->ay listed e.on=Y):wpOpIn (FR rd) 0 E.P ops Q r.i (L7 E ops w0 done Kz f m recs (listed.setIfInBounds r.i Y)) a w:=by
 have⟨H,μ,φ,Sd,hR⟩:=h.rel;have hs:=(Qm (rd:=rd) (Q:=Q) H fL.lt fL.inn fL.ord fL.kl fL.cln fL.ok h.cl hr hed hi hl hR (K:=λa' w'=>∃μ' φ',Rel E.P E.aQ E.fn.ntmps (hB w0 H) μ' φ' (gI (ay (listed.setIfInBounds r.i Y)) f recs) (iL (ay (listed.setIfInBounds r.i Y)) m recs) a' w') λμ' φ' a' w' h=>⟨μ',φ',h⟩).1;refine wpOpIn_mono (λa' w' hk=>?_) (Vk (fL.inn r hr) (T:=λd v=>v=a.tmps.getD d undef) (λ_ _=>rfl) hs);obtain⟨⟨μ',φ',mo⟩,ht⟩:=hk;refine h.grow (fL.inn r hr) hi hed (.inl ⟨r,hr,rfl⟩) ⟨H,μ',φ',Sd.sub (λ_ h=>h) (λx hx hlx=>?_) (λx hx d hd=>ht d λe=>?_),mo⟩
 .grind [iM,absurd]
 .obtain⟨h1,h2,h3⟩:=OY x hx;exact h3 r hr (Ak h2 (fL.inn r hr) hd e).symm
theorem L7.alc(fL:ac7 E ops w0 (λi=>done.elem i) f m recs)(OY:∀x∈Kz,ops[x.1]?=U x.2/\Pv ops x=Y/\∀r∈recs,r.i≠x.1)(hft:∀x∈Kz,∀d,x.2.dst=U d->f d=.top)(h:L7 E ops w0 done Kz f m recs listed a w)(hx:x∈Kz)(hk:sw E x.2=Y)(hl:ay listed x.1=J)(hi:x.1<listed.size):wpOpIn (FR rd) 0 E.P ops Q x.1 (L7 E ops w0 done Kz f m recs (listed.setIfInBounds x.1 Y)) a w:=by
 have⟨H,μ,φ,Sd,hR⟩:=h.rel;obtain⟨i,⟨dst,op,type,pos,after,guard⟩⟩:=x;obtain⟨nJ,huq,Ti⟩:=OY _ hx;simp only[sw,T1,aAa,ayx]at hk;obtain⟨⟨⟨⟨hg,haf⟩,JI⟩,hdo⟩,hz⟩:=hk;subst hg;split at hz;rotate_left
 .cases hz
 rename_i t d;have⟨cs,hz⟩:=aym.1 hz;have⟨inf,zv,z1,z2,_⟩:=eA hz;unfold wpOpIn;rw[nJ];simp only[Region.wanted,By];refine⟨λ_ _=>trivial,?_⟩;rw[Oper.semAt_eq _ _ _ (λc hc=>by cases hc)];simp only[execOp,Sem.run_bind,It z1 z2,Result.andThen_ok,Sem.run_pure];have hnl:∀e∈after,Region.binds .any e=Y->ay listed e.on=true:=λe he _=>av
 have hdl:d<E.fn.ntmps:=jJ hdo d rfl;have hfd:∀S,gI S f recs d=.top:=λS=>XR (hft _ hx d rfl) λq hq hd=>Ti q hq (Ak huq (fL.inn q hq) rfl hd).symm;have L5:=hR.ahE (.cells zv.cells t);have awa:gI (ay (listed.setIfInBounds i Y)) f recs=gI (ay listed) f recs:=funext λs=>EI rfl λq hq=>by rw[iM hi,IT (Ti q hq)]
 have awb:iL (ay (listed.setIfInBounds i Y)) m recs=iL (ay listed) m recs:=funext λs=>EJ rfl λq hq=>by rw[iM hi,IT (Ti q hq)]
 have IX:∀y∈Kz,y.1≠i->∀e,y.2.dst=U e->e≠d:=λy hy cO e he hed=>cO (Ak huq (OY y hy).1 rfl (by rw[he,hed])).symm;have fG:∀e,e≠d->(a.tmps.setIfInBounds d (.pointer (U ⟨w.heap.size,0,Z⟩))).getD e undef=a.tmps.getD e undef:=λe he=>by simp only[awW,ayw];grind
 have JD:(a.tmps.setIfInBounds d (.pointer (U ⟨w.heap.size,0,Z⟩))).getD d undef=.pointer (U ⟨w.heap.size,0,Z⟩):=by
  have:d<a.tmps.size:=by rw[hR.size];omega
  simp_all
 have ar3:∀g o,H g=U o->g<w.heap.size:=λg o hg=>(auA.1 (hR.hid g o hg).1).1;refine h.grow nJ hi hnl (.inr ⟨_,hx,rfl⟩) ⟨hAdd H w.heap.size (.cells zv.cells t),μ,φ,⟨λg o hg=>?_,λy hy hly=>?_,λy hy y' hy' hly ar4 cO e e' he Z4=>?_⟩,?_⟩
 .unfold hAdd;rw[IT λe=>by have:=ar3 _ _ (Sd.le g o hg);omega];exact Sd.le g o hg
 .by_cases hyi:y.1=i
  .have h1:=(OY y hy).1;rw[hyi,nJ]at h1;have:y.2=_:=(ayH h1).symm;refine⟨d,t,zv.cells,w.heap.size,by rw[this],by rw[this],⟨inf,zv,z1,z2,rfl⟩,JD,by simp[hAdd],?_⟩;cases hq:w0.hid w.heap.size with
   |none=>rfl
   |some o=>have:=ar3 _ _ (Sd.le _ _ hq);omega
  .rw[iM hi,IT hyi]at hly;have⟨e,t',c',g',q1,q2,q3,q4,q5,q6⟩:=Sd.pt y hy hly;refine⟨e,t',c',g',q1,q2,q3,by rw[show((a.put (U d) (.pointer (U ⟨w.heap.size,0,Z⟩))).tmps)=a.tmps.setIfInBounds d (.pointer (U ⟨w.heap.size,0,Z⟩))from rfl,fG e (IX y hy hyi e q2)];omega,?_,q6⟩;unfold hAdd;grind
 .have key:∀y∈Kz,y.1≠i->ay (listed.setIfInBounds i Y) y.1=Y->∀e,y.2.dst=U e->a.tmps.getD e undef≠.pointer (U ⟨w.heap.size,0,Z⟩):=λy hy hyi hly e he hee=>by rw[iM hi,IT hyi]at hly;have⟨e',t',c',g',q1,q2,q3,q4,q5,q6⟩:=Sd.pt y hy hly;grind
  show(a.tmps.setIfInBounds d (.pointer (U ⟨w.heap.size,0,Z⟩))).getD e undef≠(a.tmps.setIfInBounds d (.pointer (U ⟨w.heap.size,0,Z⟩))).getD e' undef;have ahH:∀z∈Kz,z.1=i->∀u,z.2.dst=U u->u=d:=λz hz hzi u hu=>ao
  by_cases hyi:y.1=i
  .grind
  .by_cases ar5:y'.1=i
   .grind
   .rw[fG e (IX y hy hyi e he),fG e' (IX y' hy' ar5 e' Z4)];rw[iM hi,IT hyi]at hly;rw[iM hi,IT ar5]at ar4;exact Sd.inj y hy y' hy' hly ar4 cO e e' he Z4
 .rw[awa,awb];exact L5.put (λ_ _ h=>h) (λe he=>by cases he;omega) L5.toaR L5.nS (v:=.top) .top (λid hid=>by cases hid)|>.weaken λs=>by grind [eL,Option.some.inj]
theorem aeY(hE:mn E)(hY:yZ E.P E.aQ E.fn.ntmps E.yl w0){k:Fr->Mem->Option R}{r:R}(hQ:∀f' m' μ' φ' a' w',k f' m'=U r->Rel E.P E.aQ E.fn.ntmps w0 μ' φ' f' m' a' w'->Q .normal a' w'):∀(ps done:List Nat)(fl:List (Nat×Oper))(f0:Fr)(m:Mem),Mk E ops k ps done fl f0 (cN f0 (fl++xL E ops done)) m=U r->(∀x∈fl,an2 E ops x/\done.elem x.1=J)->(∀i o,ops[i]?=U o->(done.elem i=Y\/∃x∈fl,x.1=i)->∀e∈o.after,Region.binds .any e=Y->done.elem e.on=Y\/∃x∈fl,x.1=e.on)->∀(fuel:Nat)(listed:Array Bool),listed.size=ops.size->listed.toList.countP (λb=> !b)<=fuel->Ai ops listed->(∀i,done.elem i=Y->ay listed i=Y)->(∀i,ay listed i=Y->done.elem i=Y\/(∃x∈fl,x.1=i)\/∃x∈xL E ops done,x.1=i)->∀(H μ:Ro)(φ:Nat->aT)(a:Act)(w:World),GK E w0.hid H (xL E ops done) (ay listed) a->Rel E.P E.aQ E.fn.ntmps (hB w0 H) μ φ (cN f0 ((fl.filter λx=> !ay listed x.1)++xL E ops done)) m a w->wpAnyIn (FR rd) 0 E.P .any ops Q fuel listed a w:=by
 intro ps;induction ps with
 |nil=>
  intro done fl f0 m h OP hbc fuel listed hs hc vR hb yO H μ φ a w Sd hR;simp only[Mk]at h;split at h;rotate_left
  .cases h
  rename_i hi;have hz:∀x,x∈aai ops done↔x∈OK ops/\done.elem x.1=false:=λx=>by simp[aai,ayr]
  have hpn:∀x∈xL E ops done,x∈OK ops/\sw E x.2=Y/\done.elem x.1=false:=λx hx=>by simp only[xL,ayr,T1,ayx]at hx;exact hx
  have⟨_,_,i3⟩:=GJ hi;obtain⟨recs,f',c1,c2,c3,fL,L3⟩:=XQ (w0:=w0) (base:=λi=>done.elem i) hE hY (l:=aai ops done) (λx hx=>mQ ((hz x).1 hx).1) ac8 (λx hx=>((hz x).1 hx).2) (λx hx e he FT=>by
   cases hd:done.elem e.on with
   |true=>exact .inl rfl
   |false=>have h1:=i3 x hx e he FT;have h2:x.1<ops.size:=(auA.1 (mQ ((hz x).1 hx).1)).1;exact .inr ⟨_,(hz _).2 ⟨Cz (aq5 (aa:e.on<ops.size)),hd⟩,rfl⟩) hi (λx hx=>(OP x hx).1) (λx hx=>⟨mQ (hpn x hx).1,(hpn x hx).2.1⟩) hbc h
  have bt:∀x∈aai ops done,∃q∈recs,q.i=x.1:=λx hx=>ao
  have Vl:∀q∈recs,(q.i,q.o)∈aai ops done:=λq hq=>ao
  obtain⟨H1,φ1,hE1,L5⟩:=L3 _ _ H μ φ a w yO Sd hR;have aaO:L7 E ops w0 done [] (cN f0 (fl++xL E ops done)) m recs listed a w:=⟨hs,vR,hb,λi hi=>by
   cases hd:done.elem i with
   |true=>exact .inl rfl
   |false=>
    have bX:i<ops.size:=by rw[<-hs];refine Nat.lt_of_not_le λL4=>?_;simp[ay,awW,aA1 L4]at hi
    exact .inr (.inl (bt _ ((hz _).2 ⟨Cz (aq5 bX),hd⟩))),H1,μ,φ1,hE1.sub (λ_ h=>by cases h) (λ_ h=>by cases h) (λ_ h=>by cases h),L5⟩
  refine amZ (λl a w h=>h.size) (λl a w h hr=>?_) (λfuel l a w hc h i o ho hl hi hed=>.inl ?_) fuel listed a w hc aaO
  .have uX:∀n,∀q∈recs,q.i<n->ay l q.i=true:=by
    intro n;induction n with
    |zero=>intro q _ hq;omega
    |succ n ihn=>
     intro q hq hqn;cases hx:ay l q.i with
     |true=>rfl
     |false=>
      exfalso;have bX:q.i<l.size:=by rw[h.size];exact(auA.1 (fL.inn q hq)).1
      have hm:q.i∈Region.ready .any ops l:=mem_ready.2 ⟨by simp only[ay,awW,aq5 bX,ayy]at hx⊢;exact hx,q.o,fL.inn q hq,λe he FT=>?_⟩
      .rw[hr]at hm;cases hm
      .obtain⟨h1,h2⟩:=fL.GL q hq e he FT;rcases h2 with h2|⟨q2,hq2,e2⟩
       .exact h.ge _ h2
       .have:=ihn q2 hq2 aa;rwa[e2]at this
   have⟨H2,μ2,φ2,hE2,Mq⟩:=h.rel;rw[show gI (ay l) (cN f0 (fl++xL E ops done)) recs=lf (cN f0 (fl++xL E ops done)) recs from funext λt=>DF rfl λq hq hf=>(by rw[uX _ q hq (aAw _)]at hf;cases hf),show iL (ay l) m recs=sQ m recs from funext λt=>DG rfl λq hq hf=>(by rw[uX _ q hq (aAw _)]at hf;cases hf)]at Mq;exact hQ _ _ _ _ _ _ c1 ((Mq.Ve (H':=w0.hid) hE2.le).weaken c2)
  .have Z2:done.elem i=false:=by
    cases hd:done.elem i with
    |false=>rfl
    |true=>rw[h.ge i hd]at hl;cases hl
   obtain⟨q,hq,e⟩:=bt _ ((hz (i,o)).2 ⟨Cz ho,Z2⟩);have e:q.i=i:=e;subst e;have:q.o=o:=by have:=fL.inn q hq;rw[ho]at this;exact(ayH this).symm
   subst this;exact h.step fL (λ_ h=>by cases h) hq hl hi hed
 |cons p ps ih=>
  intro done fl f0 m h OP hbc fuel listed hs hc vR hb yO H μ φ a w Sd hR;simp only[Mk]at h;split at h;rotate_left
  .cases h
  rename_i o ho;split at h;rotate_left
  .cases h
  rename_i hsk;simp only[amH,T1,ayK,ayx,ayj]at hsk;obtain⟨⟨⟨⟨⟨⟨⟨hi,fO⟩,hpd⟩,ar6⟩,an5⟩,awc⟩,an6⟩,awd⟩:=hsk;generalize hl:Xm E ops done p o=l at*;have hz:∀x,x∈l↔x∈OK ops/\done.elem x.1=J/\x.1≠p/\reach ops 8 x.2 p=J/\(sw E x.2=Y->reach ops 8 o x.1=Y):=λx=>by
   rw[<-hl];simp only[Xm,ayr,T1,ayx,ayj];constructor
   .rintro⟨h1,⟨⟨h2,h3⟩,h4⟩,h5⟩;exact⟨h1,h2,λe=>(by rw[e,Nat.beq_refl]at h3;cases h3),h4,λh=>h5.resolve_left λh6=>by rw[h]at h6;cases h6⟩
   .rintro⟨h1,h2,h3,h4,h5⟩;refine⟨h1,⟨⟨h2,?_⟩,h4⟩,?_⟩
    .cases hx:Nat.beq x.1 p with
     |false=>rfl
     |true=>exact absurd (T0 hx) h3
    .cases hx:sw E x.2 with
     |false=>exact .inl rfl
     |true=>exact .inr (h5 hx)
  have hpn:∀x,x∈xL E ops done↔x∈OK ops/\sw E x.2=Y/\done.elem x.1=false:=λx=>by simp[xL,ayr]
  have an7:o.guard=Z/\∃c,o.op=.call c:=by
   simp only[amG,T1,aAa]at fO;refine⟨fO.1,?_⟩;have h2:=fO.2;split at h2
   .exact⟨_,by assumption⟩
   .cases h2
  obtain⟨L3,Vg⟩:=an7;obtain⟨recs,f',c1,c2,c3,fL,an8⟩:=XQ (w0:=w0) (base:=λi=>done.elem i) hE hY (l:=l) (λx hx=>mQ ((hz x).1 hx).1) (hl▸ac8) (λx hx=>((hz x).1 hx).2.1) (λx hx=>O0 (an5 x hx).1) hi (λx hx=>(OP x hx).1) (λx hx=>⟨mQ ((hpn x).1 hx).1,((hpn x).1 hx).2.1⟩) hbc h;have bt:∀x∈l,∃q∈recs,q.i=x.1/\q.o=x.2:=λx hx=>ao
  have Vl:∀q∈recs,(q.i,q.o)∈l:=λq hq=>ao
  have awe:p<ops.size:=(auA.1 ho).1;have hpr:∀r∈recs,r.i≠p:=λr hr=>((hz _).1 (Vl r hr)).2.2.1;have hfm:∀x,x∈Sj ops o l↔x∈l/\reach ops 8 o x.1=false:=λx=>by simp[Sj,ayr]
  have hbm:∀i,(Gs ops o l).elem i=Y↔∃x∈l,reach ops 8 o x.1=Y/\x.1=i:=λi=>by
   rw[azK];simp only[Gs,ayl,ayr];constructor
   .rintro⟨x,⟨h1,h2⟩,h3⟩;exact⟨x,h1,h2,h3⟩
   .rintro⟨x,h1,h2,h3⟩;exact⟨x,⟨h1,h2⟩,h3⟩
  have hdm:∀i,(p::(Gs ops o l++done)).elem i=Y↔i=p\/(∃x∈l,reach ops 8 o x.1=Y/\x.1=i)\/done.elem i=true:=λi=>by rw[azK,aye,ayq,<-hbm,azK,azK]
  obtain⟨Kz,ar7⟩:∃Kz,Kz=(xL E ops done).filter λx=> !l.any λy=>y.1==x.1:=⟨_,rfl⟩;have ham:∀x,x∈Kz↔x∈xL E ops done/\∀y∈l,y.1≠x.1:=λx=>by rw[ar7];simp only[ayr,ayx,azj,beq_iff_eq]
  have an9:∀x∈Kz,x.1≠p:=λx hx e=>by have h1:=(hpn x).1 ((ham x).1 hx).1;have h2:=mQ h1.1;rw[e,ho]at h2;have h3:=h1.2.1;rw[<-ayH h2]at h3;obtain⟨c,hc⟩:=Vg;simp[sw,hc]at h3
  have OY:∀x∈Kz,ops[x.1]?=U x.2/\Pv ops x=Y/\∀r∈recs,r.i≠x.1:=λx hx=>by have⟨h1,h2⟩:=(ham x).1 hx;exact⟨mQ ((hpn x).1 h1).1,awd x h1,λr hr=>h2 _ (Vl r hr)⟩
  have hft:∀x∈Kz,∀d,x.2.dst=U d->cN f0 (fl++xL E ops done) d=.top:=λx hx d hd=>rY (.inr ⟨x,ayq.2 (.inr ((ham x).1 hx).1),hd⟩);have ar8:∀x∈fl,x∈l:=λx hx=>by
   have⟨h1,h2⟩:=OP x hx;have hxp:x.1≠p:=λe=>by have h3:=h1.1;rw[e,ho]at h3;have h4:=h1.2.1;rw[<-ayH h3]at h4;obtain⟨c,hc⟩:=Vg;simp[qS,hc]at h4
   exact(hz x).2 ⟨Cz h1.1,h2,hxp,awc x hx,λh=>(vU h1.2.1 h).elim⟩
  have ac9:∀x,x∈xL E ops (p::(Gs ops o l++done))↔x∈Kz:=λx=>by
   rw[ham,hpn];simp only[xL,ayr,T1,ayx];constructor
   .rintro⟨h1,h2,h3⟩;have h4:¬(p::(Gs ops o l++done)).elem x.1=true:=by rw[h3];simp
    rw[hdm]at h4;refine⟨⟨h1,h2,?_⟩,λy hy e=>?_⟩
    .cases hx:done.elem x.1 with
     |false=>rfl
     |true=>exact absurd (.inr (.inr hx)) h4
    .have hxy:y=x:=by have a1:=mQ ((hz y).1 hy).1;rw[e,mQ h1]at a1;exact Prod.ext e (ayH a1).symm
     subst hxy;exact h4 (.inr (.inl ⟨y,hy,((hz y).1 hy).2.2.2.2 h2,rfl⟩))
   .rintro⟨⟨h1,h2,h3⟩,h4⟩;refine⟨h1,h2,?_⟩;cases hx:(p::(Gs ops o l++done)).elem x.1 with
    |false=>rfl
    |true=>
     rcases(hdm _).1 hx with e|⟨y,hy,_,e⟩|h5
     .have h6:=mQ h1;rw[e,ho]at h6;obtain⟨c,hc⟩:=Vg;rw[<-ayH h6]at h2;simp[sw,hc]at h2
     .exact absurd e (h4 y hy)
     .rw[h3]at h5;cases h5
  have hP:∀(fuel:Nat)(listed:Array Bool)(a:Act)(w:World),listed.toList.countP (λb=> !b)<=fuel+1->L7 E ops w0 done Kz (cN f0 (fl++xL E ops done)) m recs listed a w->(∀e∈o.after,Region.binds .any e=Y->ay listed e.on=Y)->ay listed p=J->wpOpIn (FR rd) 0 E.P ops Q p (wpAnyIn (FR rd) 0 E.P .any ops Q fuel (listed.setIfInBounds p Y)) a w:=by
   intro fuel listed a w hc aaO Aj hpu;obtain⟨hs,vR,hb,yO,H,μ,φ,Sd,hR⟩:=aaO;have aoa:∀q∈recs,ay listed q.i=J->(q.i,q.o)∈Sj ops o l:=λq hq hu=>(hfm _).2 ⟨Vl q hq,by
    cases hx:reach ops 8 o q.i with
    |false=>rfl
    |true=>rw[qY listed vR 8 o q.i Aj hx]at hu;cases hu⟩
   obtain⟨μ1,φ1,a1,L5,hd1,hz1,ht1⟩:=aaN H fL.lt fL.inn fL.ord fL.kl fL.cln fL.ok fL.GL _ listed hs (ayd _) vR hb (λq hq hu=>by obtain⟨⟨⟨h1,h2⟩,_⟩,_⟩:=an6 _ (aoa q hq hu);exact⟨h1,h2⟩) μ φ a w hR;have ahM:=lM (rd:=rd) (w0:=hB w0 H) hE (hY.hid H) _ (.inl rfl) c1 (λx hx=>by
    simp only[ayZ]at hx;subst hx;exact ho) (by intro x hx g hg;cases hg) (λh=>aa) μ1 φ1 a1 w
    (λe a w=>e=.normal/\∃f2 m2 μ2 φ2,Mk E ops k ps (p::(Gs ops o l++done)) (Sj ops o l) f2 (cN f2 (Sj ops o l++xL E ops (p::(Gs ops o l++done)))) m2=U r/\Rel E.P E.aQ E.fn.ntmps (hB w0 H) μ2 φ2 f2 m2 a w) [] (L5.weaken c2) (by intro g hg;cases hg) λf2 m2 μ2 φ2 a2 w2 Sc Mq _ _=>⟨rfl,f2,m2,μ2,φ2,Sc,Mq⟩
   rw[ayF,ayb,ay6,wpOpsIn_cons]at ahM;have ahH:∀q∈recs,ay listed q.i=J->∀d,q.o.dst=U d->d∉o.looksAt ops:=λq hq hu=>by obtain⟨⟨_,h2⟩,_⟩:=an6 _ (aoa q hq hu);exact(Oper.apart_spec h2).1
   have hw:∀a:Act,Region.wanted o (yielded ops a.tmps)=true:=λa=>by unfold Region.wanted;rw[L3]
   unfold wpOpIn at ahM⊢;rw[ho]at ahM⊢;simp only[hw,By]at ahM⊢;refine Oper.aeX Vg (λx hx=>?_) hd1 (λb b' FT hbt aob v w2 hK=>?_) (λe a w cO hq=>cO hq.1) ahM
   .cases x with
    |tmp t=>simp only[Act.eval];exact ht1 t λq hq hu hd=>ahH q hq hu t hd (TG hx)
    |_=>rfl
   .obtain⟨_,f2,m2,μ2,φ2,Sc,Mq⟩:=hK;have My:p<listed.size:=aa
    have hS':=iM My;refine ih (p::(Gs ops o l++done)) (Sj ops o l) f2 m2 Sc (λx hx=>?_) (λi oi hoi nJ e he FT=>?_) fuel (listed.setIfInBounds p Y) (by simp[hs]) ?_ ?_ (λi hi=>?_) (λi hi=>?_) H μ2 φ2 _ w2 ?_ ?_
    .obtain⟨⟨⟨h1,h2⟩,_⟩,h4⟩:=an6 x hx;have⟨g1,g2⟩:=(hfm x).1 hx;have⟨z1,z2,z3,z4,z5⟩:=(hz x).1 g1;refine⟨⟨mQ z1,h1,h2,h4⟩,?_⟩;cases hx2:(p::(Gs ops o l++done)).elem x.1 with
     |false=>rfl
     |true=>
      rcases(hdm _).1 hx2 with e|⟨y,hy,hy2,e⟩|h5
      .exact absurd e z3
      .rw[e,g2]at hy2;cases hy2
      .rw[z2]at h5;cases h5
    .have sM:∀{o':Oper},Xn (Gs ops o l++done) [] o'=Y->∀e∈o'.after,Region.binds .any e=Y->(p::(Gs ops o l++done)).elem e.on=true:=λhsh e he FT=>by
      rcases O0 hsh e he FT with h1|⟨y,hy,_⟩
      .exact azK.2 (az6 _ (azK.1 h1))
      .cases hy
     rcases nJ with nJ|⟨x,hx,rfl⟩
     .rcases(hdm _).1 nJ with rfl|⟨x,hx,hx2,rfl⟩|h5
      .rw[ho]at hoi;cases hoi;exact .inl (sM ar6 e he FT)
      .have:oi=x.2:=by have:=mQ ((hz x).1 hx).1;rw[hoi]at this;exact ayH this
       subst this;refine .inl (sM ((an5 x hx).2.resolve_left λh=>?_) e he FT);rw[hx2]at h;cases h
      .rcases hbc i oi hoi (.inl h5) e he FT with h6|⟨x,hx,h6⟩
       .exact .inl ((hdm _).2 (.inr (.inr h6)))
       .have PL:=ar8 x hx;cases hr:reach ops 8 o x.1 with
        |true=>exact .inl ((hdm _).2 (.inr (.inl ⟨x,PL,hr,h6⟩)))
        |false=>exact .inr ⟨x,(hfm x).2 ⟨PL,hr⟩,h6⟩
     .obtain⟨g1,g2⟩:=(hfm x).1 hx;have:oi=x.2:=by have:=mQ ((hz x).1 g1).1;rw[hoi]at this;exact ayH this
      subst this;rcases O0 (an5 x g1).1 e he FT with h1|⟨y,hy,h1⟩
      .exact .inl ((hdm _).2 (.inr (.inr h1)))
      .cases hr:reach ops 8 o y.1 with
       |true=>exact .inl ((hdm _).2 (.inr (.inl ⟨y,hy,hr,h1⟩)))
       |false=>exact .inr ⟨y,(hfm y).2 ⟨hy,hr⟩,h1⟩
    .rw[azh,aAA (by simpa using My)];have:listed.toList[p]'(by simpa using My)=false:=by simp only[ay,awW,aq5 My,ayy]at hpu;simpa using hpu
     rw[this];simp only[ayi,By,aq3,AI,OF];omega
    .intro i' o' ho' sC e he FT;rw[hS']at sC⊢;split
     .rfl
     .split at sC
      .rename_i hqi;subst hqi;have:o'=o:=by rw[ho]at ho';exact(ayH ho').symm
       subst this;exact Aj e he FT
      .exact vR i' o' ho' sC e he FT
    .rw[hS'];split
     .rfl
     .rename_i hip;rcases(hdm _).1 hi with e|⟨y,hy,hy2,e⟩|h5
      .exact absurd e hip
      .rw[<-e];exact qY listed vR 8 o y.1 Aj hy2
      .exact hb i h5
    .rw[hS']at hi;split at hi
     next hip=>exact .inl ((hdm _).2 (.inl hip))
     .rcases yO i hi with h1|⟨q,hq,e⟩|⟨x,hx,e⟩
      .exact .inl ((hdm _).2 (.inr (.inr h1)))
      .cases hx:reach ops 8 o q.i with
       |true=>exact .inl ((hdm _).2 (.inr (.inl ⟨_,Vl q hq,hx,e⟩)))
       |false=>exact .inr (.inl ⟨(q.i,q.o),(hfm _).2 ⟨Vl q hq,hx⟩,e⟩)
      .exact .inr (.inr ⟨x,(ac9 x).2 hx,e⟩)
    .refine Sd.sub (λx hx=>(ac9 x).1 hx) (λx hx hlx=>?_) (λx hx d hd=>?_)
     .rw[hS']at hlx;split at hlx
      next e=>exact absurd e (an9 x ((ac9 x).1 hx))
      .exact hlx
     .have hx:=(ac9 x).1 hx;have cO:o.dst≠U d:=λe=>an9 x hx (Ak (OY x hx).2.1 ho hd e);cases hod:o.dst with
      |none=>simp only[Act.put,hbt]
      |some d0=>simp only[Act.put,hbt,awW,ayw];rw[IT λe=>cO (by rw[hod,e])]
    .have sB:a.tmps.size=a1.tmps.size:=hz1.symm;refine Mq.swap (by cases o.dst<;>simp[Act.put,hbt,aob,sB]) (by cases o.dst<;>simpa[Act.put]using FT) λt=>?_;by_cases hex:∃x∈(Sj ops o l).filter (λx=> !ay (listed.setIfInBounds p Y) x.1)++xL E ops (p::(Gs ops o l++done)),x.2.dst=U t
     .exact .inl (rY (.inr hex))
     .refine .inr ⟨k9 λx hx hxd=>hex ⟨x,hx,hxd⟩,?_⟩;have htt:a1.tmps.getD t undef=a.tmps.getD t undef:=ht1 t λq hq hu hd=>hex ⟨(q.i,q.o),ayq.2 (.inl (ayr.2 ⟨aoa q hq hu,by rw[hS',IT (hpr q hq),hu];rfl⟩)),hd⟩;cases hod:o.dst with
      |none=>simp only[Act.put,hbt,aob];exact htt.symm
      |some d=>
       simp only[Act.put,hbt,aob,awW,ayw]at htt⊢;by_cases hdt:d=t
       .subst hdt;simp[sB]
       .simp only[hdt,OF];exact htt.symm
  obtain⟨H1,φ1,hE1,L5⟩:=an8 _ _ H μ φ a w yO Sd hR;have awf:∀x∈fl,∃q∈recs,q.i=x.1:=λx hx=>by obtain⟨q,hq,e,_⟩:=bt _ (ar8 x hx);exact⟨q,hq,e⟩
  have aaO:L7 E ops w0 done Kz (cN f0 (fl++xL E ops done)) m recs listed a w:=⟨hs,vR,hb,λi hi=>by
   rcases yO i hi with h1|⟨x,hx,rfl⟩|⟨x,hx,rfl⟩
   .exact .inl h1
   .exact .inr (.inl (awf x hx))
   .by_cases PL:∃y∈l,y.1=x.1
    .obtain⟨y,hy,e⟩:=PL;have⟨q,hq,e2,_⟩:=bt y hy;exact .inr (.inl ⟨q,hq,e2.trans e⟩)
    .exact .inr (.inr ⟨x,(ham x).2 ⟨hx,λy hy e=>PL ⟨y,hy,e⟩⟩,rfl⟩),H1,μ,φ1,ar7▸hE1,L5⟩
  have ar9:∀l' a w,L7 E ops w0 done Kz (cN f0 (fl++xL E ops done)) m recs l' a w->ay l' p=false:=λl' a w h=>by
   cases hx:ay l' p with
   |false=>rfl
   |true=>
    rcases h.le p hx with h1|⟨q,hq,e⟩|⟨x,hx,e⟩
    .rw[hpd]at h1;cases h1
    .exact absurd e (hpr q hq)
    .exact absurd e (an9 x hx)
  refine amZ (λl a w h=>h.size) (λl' a w h hr=>?_) (λfuel l' a w hc hMd i oi hoi hli hi hed=>?_) fuel listed a w hc aaO
  .exfalso;have uX:∀n,∀q∈recs,q.i<n->ay l' q.i=true:=by
    intro n;induction n with
    |zero=>intro q _ hq;omega
    |succ n ihn=>
     intro q hq hqn;cases hx:ay l' q.i with
     |true=>rfl
     |false=>
      exfalso;have bX:q.i<l'.size:=by rw[h.size];exact(auA.1 (fL.inn q hq)).1
      have hm:q.i∈Region.ready .any ops l':=mem_ready.2 ⟨by simp only[ay,awW,aq5 bX,ayy]at hx⊢;exact hx,q.o,fL.inn q hq,λe he FT=>?_⟩
      .rw[hr]at hm;cases hm
      .obtain⟨h1,h2⟩:=fL.GL q hq e he FT;rcases h2 with h2|⟨q2,hq2,e2⟩
       .exact h.ge _ h2
       .have:=ihn q2 hq2 aa;rwa[e2]at this
   have u9:p<l'.size:=by rw[h.size];exact awe
   have hpu:=ar9 _ _ _ h;have hm:p∈Region.ready .any ops l':=mem_ready.2 ⟨by
    simp only[ay,awW,aq5 u9,ayy]at hpu⊢;exact hpu,o,ho,λe he FT=>by
    rcases O0 ar6 e he FT with h1|⟨y,hy,_⟩
    .rcases ayq.1 (azK.1 h1)with h2|h2
     .obtain⟨y,hy,_,e1⟩:=(hbm _).1 (azK.2 h2);have⟨q,hq,e2,_⟩:=bt y hy;rw[<-e1,<-e2];exact uX _ q hq (aAw _)
     .exact h.ge _ (azK.2 h2)
    .cases hy⟩
   rw[hr]at hm;cases hm
  .by_cases hip:i=p
   .subst hip;rw[ho]at hoi;cases hoi;exact .inr (hP fuel l' a w hc hMd hed hli)
   .by_cases hir:∃q∈recs,q.i=i
    .obtain⟨q,hq,rfl⟩:=hir;have:q.o=oi:=by have:=fL.inn q hq;rw[hoi]at this;exact(ayH this).symm
     subst this;exact .inl (hMd.step fL OY hq hli hi hed)
    .by_cases hia:∃x∈Kz,x.1=i
     .obtain⟨x,hx,rfl⟩:=hia;exact .inl (hMd.alc fL OY hft hx ((hpn x).1 ((ham x).1 hx).1).2.1 hli hi)
     .exfalso;have Z2:done.elem i=false:=by
       cases hd:done.elem i with
       |false=>rfl
       |true=>rw[hMd.ge i hd]at hli;cases hli
      have hnl:∀y∈l,y.1≠i:=λy hy e=>by have⟨q,hq,e2,_⟩:=bt y hy;exact hir ⟨q,hq,e2.trans e⟩
      cases hx:reach ops 8 oi p with
      |true=>have:=qY l' hMd.cl 8 oi p hed hx;rw[ar9 _ _ _ hMd]at this;cases this
      |false=>
       by_cases hk:sw E oi=Y
       .exact hia ⟨(i,oi),(ham _).2 ⟨(hpn _).2 ⟨Cz hoi,hk,Z2⟩,λy hy e=>hnl y hy e⟩,rfl⟩
       .exact hnl (i,oi) ((hz (i,oi)).2 ⟨Cz hoi,Z2,hip,hx,λh=>absurd h hk⟩) rfl
end
end Go.Ab
namespace Go.Ab
open Go.RowKit (Below)
section
variable {P:Program} {G:Nat->Option (List PV)} {w0:bI} {μ:Ro} {φ:Nat->aT} {m:Mem} {w:World}
def ou.putObj(w:World)(g:Nat)(o:Obj):ou g w (w.putObj g o):=⟨⟨rfl,rfl,rfl,ae,λk hk=>World.putObj_heap_other aa⟩,λ_=>ayd _⟩
def aR.Gw(h:aR P G w0 μ φ m w){w1:bI}(hw:w1.w=w0.w)(WY:w1.mu=w0.mu)(hk:∀b o,w1.eF b=U o->μ b=U o)(Jm:∀id st,m id=U (.loop st)->w1.rc id=w0.rc id)(hh:w1.hid=w0.hid:=by first|rfl|(subst_vars;rfl)):aR P G w1 μ φ m w:=by obtain⟨a0,b0,c0,d0,e0,f0,g0⟩:=w0;obtain⟨a1,b1,c1,d1,e1,f1,g1⟩:=w1;simp only at hw WY hh;subst hw;subst WY;subst hh;refine⟨h.below,h.ro,h.aQ,h.eE,h.own,h.inj,h.apart,h.hU,h.base,hk,λid st hid=>?_,h.hid⟩;have⟨g,rc,h1,h2,h3⟩:=h.L2 id st hid;simp_all
def K6(μ:Ro)(w:World)(o:Obj):Ro:=λb=>if b=w.heap.size then U o else μ b
def XS(hM:aR P G w0 μ φ m w)(o:Obj):XF μ (K6 μ w o):=by intro b o' hb;have:=(auA.1 (hM.ro b o' hb)).1;unfold K6;grind
def aR.ak4(hM:aR P G w0 μ φ m w)(o:Obj):aR P G w0 (K6 μ w o) φ m (w.alloc o):=by
 have hle:=XS hM o;have hold:∀k,k<w.heap.size->(w.alloc o).heap[k]?=w.heap[k]?:=λk hk=>ou.heap_alloc w o k hk;have sB:w0.heap.size<=w.heap.size:=hM.below.size;refine⟨hM.below.alloc hM.below.size o,λb o' hb=>?_,λg cs hg=>(hM.aQ g cs hg).mono hle,λid b hid=>?_,λid b g hid hg=>?_,hM.inj,hM.apart,hM.hU,λb o' hb bX=>?_,λb o' hb=>hle b o' (hM.eF b o' hb),λid st hid=>?_,λk o' h=>(by have⟨h1,h2,h3,h4⟩:=hM.hid k o' h;have bX:=(auA.1 h1).1;exact⟨by rw[hold k bX];exact h1,h2,by unfold K6;rw[IT aa];exact h3,h4⟩)⟩
 .unfold K6 at hb;split at hb
  .grind [heap_alloc_new]
  .have:=hM.ro b o' hb;grind
 .have hR:=hM.eE id b hid;exact hR.dd (λ_ _=>rfl) rfl hle (λg hg=>hold g (hR.ON hg))
 .obtain⟨h1,h2⟩:=hM.own id b g hid hg;refine⟨h1,λag8=>?_⟩;have:=(hM.eE id b hid).ON hg;unfold K6;grind
 .unfold K6 at hb;rw[IT aa]at hb;exact hM.base b o' hb bX
 .obtain⟨g,rc,h1,h2,h3⟩:=hM.L2 id st hid;grind
def aR.other(hM:aR P G w0 μ φ m w){g:Nat}(o:Obj)(hg:w0.heap.size<=g)(hμ:μ g=Z)(JN:∀id b,m id=U b->¬b.owns (φ id) g)(hh:w0.hid g=Z):aR P G w0 μ φ m (w.putObj g o):=by
 have IX:∀k,k≠g->(w.putObj g o).heap[k]?=w.heap[k]?:=λk hk=>World.putObj_heap_other hk;refine⟨hM.below.trans ((ou.putObj w g o).mono hg),λb o' hb=>?_,hM.aQ,λid b hid=>?_,hM.own,hM.inj,hM.apart,hM.hU,hM.base,hM.eF,λid st hid=>?_,λk o' h=>⟨(IX k λe=>by subst e;rw[hh]at h;cases h).trans (hM.hid k o' h).1,(hM.hid k o' h).2⟩⟩
 .rw[IX b λe=>av];exact hM.ro b o' hb
 .have hR:=hM.eE id b hid;exact hR.dd (λ_ _=>rfl) rfl (λ_ _ h=>h) (λg' dH=>IX g' λe=>av)
 .obtain⟨g',rc,h1,h2,h3⟩:=hM.L2 id st hid;exact⟨g',rc,h1,h2,by rw[IX g' λe=>by subst e;exact JN id _ hid (.inl h1)];omega⟩
def aR.turn(hM:aR P G w0 μ φ m w){id g:Nat}{st st':ZY}{rc:Loop}(hm:m id=U (.loop st))(hg:(φ id).g=U g)(Jm:w0.rc id=U (g,rc)):aR P G w0 μ φ (aO m id (.loop st')) (w.putObj g (.loop (st'.obj rc))):=by have bX:=(hM.eE id _ hm).ON (.inl hg);have aha:(w.putObj g (.loop (st'.obj rc))).heap[g]?=U (.loop (st'.obj rc)):=World.putObj_heap_same bX;exact hM.write hm rfl hg (ou.putObj w g _) ae (λk hk=>World.putObj_heap_other hk) ⟨g,rc,hg,aha⟩ rfl gu λs hs=>av
end
section
variable {P:Program} {μ:Ro} {φ:Nat->aT}
def TK{nt:Nat}:∀(ps:List Nat)(args:List V)(xs:List Value)(f:Fr)(tmps:Array Value),tmps.size=nt->args.length=xs.length->(∀t,t<nt->az P μ φ (f t) (tmps.getD t undef))->(∀(i:Nat)v x,args[i]?=U v->xs[i]?=U x->az P μ φ v x)->((ps.zip xs).foldl (λtmps(x:Nat×Value)=>tmps.setIfInBounds x.1 x.2) tmps).size=nt/\∀t,t<nt->az P μ φ (Pu ps args f t) (((ps.zip xs).foldl (λtmps(x:Nat×Value)=>tmps.setIfInBounds x.1 x.2) tmps).getD t undef)
 |[],args,xs,f,tmps,hs,_,hf,_=>by cases args<;>exact⟨hs,hf⟩
 |p::ps,[],xs,f,tmps,hs,hl,hf,_=>by have:xs=[]:=ayh (by simpa using hl.symm);subst this;exact⟨hs,hf⟩
 |p::ps,v::args,[],f,tmps,hs,hl,hf,_=>by simp at hl
 |p::ps,v::args,x::xs,f,tmps,hs,hl,hf,hr=>by
  simp only[List.zip_cons_cons,aA3,Pu];refine TK ps args xs (jC f p v) (tmps.setIfInBounds p x) (by simpa using hs) (by simpa using hl) (λt ht=>?_) (λi u y hu hy=>hr (i+1) u y (by simpa using hu) (by simpa using hy));by_cases e:t=p
  .subst e;rw[JG];have:(tmps.setIfInBounds t x).getD t undef=x:=av
   rw[this];exact hr 0 v x rfl rfl
  .rw[zV e];have:(tmps.setIfInBounds p x).getD t undef=tmps.getD t undef:=by rw[awW,awW,ayw,IT (λh=>e h.symm)]
   rw[this];exact hf t ht
def Qs{id:Nat}:∀(ps:List Nat)(args:List V)(f:Fr)(t:Nat),(Pu ps args f t).has id=Y->cX id args=Y\/(f t).has id=Y
 |[],args,f,t,h=>by cases args<;>exact .inr h
 |p::ps,[],f,t,h=>.inr h
 |p::ps,v::args,f,t,h=>by
  simp only[Pu]at h;rcases Qs ps args _ t h with h|h
  .exact .inl (by simp[cX,h])
  .by_cases e:t=p
   .subst e;rw[JG]at h;exact .inl (by simp[cX,h])
   .rw[zV e]at h;exact .inr h
def ahN(ps:Array Nat)(xs:Array Value)(tmps:Array Value):(ps.zip xs).foldl (λtmps(t,a)=>tmps.setIfInBounds t a) tmps=(ps.toList.zip xs.toList).foldl (λtmps(x:Nat×Value)=>tmps.setIfInBounds x.1 x.2) tmps:=by rw[<-Array.foldl_toList,Array.toList_zip]
end
variable{P:Program}{c:Code}{Q:Exit->Act->World->Prop}
def TL{F:Fence}{nn:Nat}(I10:Nat->Act->World->Prop)(round:∀n a w,I10 n a w->∃n',n=n'+1/\c.wpIn F nn P (Exit.then (I10 n') Q) a w):∀n a w,I10 n a w->(Code.loop c).wpIn F nn P Q a w:=by
 intro n a w hI b k cs xN hb hr;have key:∀n a w,I10 n a w->∃e a' w',Q e a' w'/\ArrivesIn (Machine.fenced P F) P (lone (b.atR a (.code c::.inLoop c::k)) cs w) b k cs e a' w':=by
  intro n;induction n with
  |zero=>grind
  |succ n ih=>
   intro a w h;obtain⟨n',hn,KU⟩:=round _ a w h;have hn:n=n':=aa
   subst hn;have⟨e,a₁,w₁,hq,K7⟩:=KU b (.inLoop c::k) cs xN hb hr;cases e with
   |normal=>have⟨e₂,a₂,w₂,asa,ak5⟩:=ih a₁ w₁ hq;exact⟨e₂,a₂,w₂,asa,.of_steps (StepsIn.trans K7 (.one (fenced_calm hb hr rfl) stepR_inLoop)) ak5⟩
   |_=>exact⟨_,a₁,w₁,hq,.pass (x:=.inLoop c) rfl (λ_ _=>.inl ae) K7⟩
 have⟨e,a',w',hq,K7⟩:=key n a w hI;exact⟨e,a',w',hq,.of_steps (.one (fenced_calm hb hr rfl) stepR_loop) K7⟩
def aeZ{rd:Option Nat}{n:Nat}{a:Act}{w:World}(h:c.wpIn (FR rd) n P (Exit.noGoto Q) a w):(Code.scope c).wpIn (FR rd) n P Q a w:=by
 intro b k cs xN hb hr;have⟨e,a₁,w₁,hq,K7⟩:=h b (.inScope c::k) cs xN hb hr;have s1:StepsIn (Machine.fenced P (FR rd)) P (lone (b.atR a (.code (.scope c)::k)) cs w) (lone (b.atR a (.code c::.inScope c::k)) cs w):=.one (fenced_calm hb hr rfl) (step_lone_go bm);have s2:∀a w,StepsIn (Machine.fenced P (FR rd)) P (lone (b.atR a (.inScope c::k)) cs w) (lone (b.atR a k) cs w):=λa w=>.one (fenced_calm hb hr rfl) (step_lone_go bm);cases e with
 |normal=>exact⟨.normal,a₁,w₁,hq,s1.trans (StepsIn.trans K7 (s2 _ _))⟩
 |exit id=>exact⟨.exit id,a₁,w₁,hq,λk' hk=>s1.trans (K7.1 k' (by simp[exitTo,hk])),λhr hk=>let⟨k₁,h1,h2⟩:=K7.2 hr (by simp[exitTo,hk]);⟨k₁,h1,s1.trans h2⟩⟩
 |goto l=>exact hq.elim
 |ret=>exact⟨_,a₁,w₁,hq,.of_steps s1 K7⟩
 |panic ch=>exact⟨_,a₁,w₁,hq,.of_steps s1 K7⟩
 |outgrown=>exact⟨_,a₁,w₁,hq,.of_steps s1 K7⟩
variable{R:Type}
def ada{T:Type}:∀{nG:List Sh}{vs:List V}{t:T}{k:tyS nG T->Option R}{r:R},nH nG vs t k=U r->∃x,k x=U r/\BF nG x=(vs,t)/\vs.length=nG.length/\∀M,(∀sh∈nG,sh.within M=Y)->ot M vs=true:=by
 intro nG;induction nG with
 |nil=>
  intro vs t k r h;cases vs with
  |nil=>exact⟨t,h,rfl,rfl,λ_ _=>rfl⟩
  |cons v vs=>simp[nH]at h
 |cons sh nG ih=>
  intro vs t k r h;cases vs with
  |nil=>cases sh<;>simp[nH]at h
  |cons v vs=>
   have push:∀{M},v.within M=Y->ot M vs=Y->ot M (v::vs)=true:=λh1 h2=>by simp[ot,h1,h2]
   cases sh with
   |own u=>
    simp only[nH]at h;split at h
    next hs=>have⟨x,x1,x2,x3,x4⟩:=ih h;have:=Vi hs;subst this;refine⟨x,x1,by simp only[BF];rw[x2],by simp[x3],λM hM=>push ?_ (x4 M λs hs=>hM s (by simp[hs]))⟩;exact hM (.own u) ae
    .cases h
   |int q=>
    cases v<;>try (simp[nH]at h;done)
    rename_i p;cases p<;>try (simp[nH]at h;done)
    simp only[nH]at h;split at h
    next hq=>subst hq;have⟨x,x1,x2,x3,x4⟩:=ih h;exact⟨_,x1,by simp only[BF];rw[x2],by simp[x3],λM hM=>push rfl (x4 M λs hs=>hM s (by simp[hs]))⟩
    .cases h
   |row id off=>
    cases v<;>try (simp[nH]at h;done)
    rename_i BE i Es;simp only[nH]at h;split at h
    next hq=>obtain⟨rfl,rfl⟩:=hq;have⟨x,x1,x2,x3,x4⟩:=ih h;exact⟨_,x1,by simp_all[BF,anj],by simp[x3],λM hM=>push (hM (.row BE Es) ae) (x4 M λs hs=>hM s (by simp[hs]))⟩
    .cases h
   |raw=>
    cases v<;>try (simp[nH]at h;done)
    simp only[nH]at h;have⟨x,x1,x2,x3,x4⟩:=ih h;exact⟨_,x1,by simp only[BF];rw[x2],by simp[x3],λM hM=>push rfl (x4 M λs hs=>hM s (by simp[hs]))⟩
   |bool=>
    cases v<;>try (simp[nH]at h;done)
    rename_i p;cases p<;>try (simp[nH]at h;done)
    simp only[nH]at h;have⟨x,x1,x2,x3,x4⟩:=ih h;exact⟨_,x1,by simp only[BF];rw[x2],by simp[x3],λM hM=>push rfl (x4 M λs hs=>hM s (by simp[hs]))⟩
   |str=>
    cases v<;>try (simp[nH]at h;done)
    rename_i p;cases p<;>try (simp[nH]at h;done)
    simp only[nH]at h;have⟨x,x1,x2,x3,x4⟩:=ih h;exact⟨_,x1,by simp only[BF];rw[x2],by simp[x3],λM hM=>push rfl (x4 M λs hs=>hM s (by simp[hs]))⟩
   |rp n=>
    cases v<;>try (simp[nH]at h;done)
    rename_i p;cases p<;>try (simp[nH]at h;done)
    rename_i cs;simp only[nH]at h;split at h
    .rename_i hq;have⟨x,x1,x2,x3,x4⟩:=ih h;have he:aX n (.agg cs)=cs:=by
      apply ayI;intro j;by_cases hj:j<n
      .have hl:j<(aX n (.agg cs)).length:=by rw[bB];omega
       rw[ta hl];have⟨_,h6⟩:=pN (ta hl);simp_all[cell,PV.cells,List.getD]
      simp_all[ay0,bB]
     exact⟨_,x1,by simp only[BF];rw[x2,he],by simp[x3],λM hM=>push rfl (x4 M λs hs=>hM s (by simp[hs]))⟩
    .cases h
   |fs s=>
    cases v<;>try (simp[nH]at h;done)
    rename_i p;simp only[nH]at h;have⟨ls,hls,h⟩:=IS.1 h;have⟨x,x1,x2,x3,x4⟩:=ih h;exact⟨_,x1,by grind [BF,acT],by simp[x3],λM hM=>push rfl (x4 M λs hs=>hM s (by simp[hs]))⟩
   |rs sz=>
    cases v<;>try (simp[nH]at h;done)
    rename_i p;cases p<;>try (simp[nH]at h;done)
    simp only[nH]at h;split at h
    next hq=>subst hq;have⟨x,x1,x2,x3,x4⟩:=ih h;exact⟨_,x1,by simp only[BF];rw[x2],by simp[x3],λM hM=>push rfl (x4 M λs hs=>hM s (by simp[hs]))⟩
    .cases h
theorem JR:∀{l:List (Nat×Option cS)}{id:Nat}{b:cS},Pf l id=U b->∃x∈l,x.1=id/\x.2=U b
 |[],_,_,h=>by simp[Pf]at h
 |(d,b')::r,id,b,h=>by
  simp only[Pf]at h;cases e:Nat.beq id d with
  |true=>rw[e]at h;exact⟨(d,b'),ae,(T0 e).symm,h⟩
  |false=>rw[e]at h;have⟨x,hx,h1,h2⟩:=JR h;exact⟨x,by simp[hx],h1,h2⟩
def K8:∀{l:List (Nat×Option cS)}{id:Nat},(∀x∈l,x.2.isSome=Y)->(∃x∈l,x.1=id)->(Pf l id).isSome=Y
 |[],_,_,⟨x,hx,_⟩=>by cases hx
 |(d,b')::r,id,h,⟨x,hx,he⟩=>by
  simp only[Pf];cases e:Nat.beq id d with
  |true=>simp_all
  |false=>
   rcases aye.1 hx with rfl|hx
   .simp_all
   .exact K8 (λy hy=>h y (by simp[hy])) ⟨x,hx,he⟩
def ak6{m:Mem}:∀{bs:List (Nat×IV)}{k:WV bs->Option R}{r:R},Du m bs k=U r->∃x,k x=U r/\(kB bs x).map (·.1)=bs.map (·.1)/\(∀y∈kB bs x,∃b,y.2=U b/\m y.1=U b)/\∀M,(∀y∈bs,y.2.within M=Y)->∀y∈kB bs x,∀b,y.2=U b->b.within M=true:=by
 intro bs;induction bs with
 |nil=>intro k r h;exact⟨(),h,rfl,by simp[kB],by simp[kB]⟩
 |cons y bs ih=>
  intro k r h;obtain⟨id,sh⟩:=y;cases sh with
  |box cs=>
   simp only[Du]at h;split at h
   .rename_i vs hm;have⟨t,t1,t2,t3,t4⟩:=ih h;have⟨x,x1,x2,x3,x4⟩:=ada t1;refine⟨x,x1,by simp only[kB,x2];simp[t2],λy hy=>?_,λM hM y hy b hb=>?_⟩
    .simp only[kB,x2]at hy;grind
    .simp only[kB,x2]at hy;rcases aye.1 hy with rfl|hy
     .simp only[tc]at hb;subst hb;simp only[cS.within];refine x4 M λs hs=>?_;have:=hM (id,.box cs) ae;grind [IV.within,List.all_eq_true]
     grind
   .cases h
  |arr sz et=>
   simp only[Du]at h;split at h
   .rename_i R7 R8 es hm;split at h
    .rename_i he;obtain⟨rfl,rfl⟩:=he;have⟨t,t1,t2,t3,t4⟩:=ih h;refine⟨(es,t),t1,by simp only[kB];simp[t2],λy hy=>?_,λM hM y hy b hb=>?_⟩
     .simp only[kB]at hy;grind
     .simp only[kB]at hy;rcases aye.1 hy with rfl|hy
      .simp only[tc]at hb;subst hb;rfl
      grind
    .cases h
   .cases h
  |xJ sz et=>
   simp only[Du]at h;split at h
   .rename_i R7 R8 es hm;split at h
    .rename_i he;obtain⟨rfl,rfl⟩:=he;have⟨t,t1,t2,t3,t4⟩:=ih h;refine⟨(es,t),t1,by simp only[kB];simp[t2],λy hy=>?_,λM hM y hy b hb=>?_⟩
     .simp only[kB]at hy;grind
     .simp only[kB]at hy;rcases aye.1 hy with rfl|hy
      .simp only[tc]at hb;subst hb;rfl
      grind
    .cases h
   .cases h
  |nest sz et=>
   simp only[Du]at h;split at h
   .rename_i R7 R8 es hm;split at h
    .rename_i he;obtain⟨rfl,rfl⟩:=he;have⟨t,t1,t2,t3,t4⟩:=ih h;refine⟨(es,t),t1,by simp only[kB];simp[t2],λy hy=>?_,λM hM y hy b hb=>?_⟩
     .simp only[kB]at hy;grind
     .simp only[kB]at hy;rcases aye.1 hy with rfl|hy
      .simp only[tc]at hb;subst hb;rfl
      grind
    .cases h
   .cases h
  |gY kt et=>
   simp only[Du]at h;split at h
   .rename_i Gh R8 es hm;split at h
    .rename_i he;obtain⟨rfl,rfl⟩:=he;have⟨t,t1,t2,t3,t4⟩:=ih h;refine⟨(es,t),t1,by simp only[kB];simp[t2],λy hy=>?_,λM hM y hy b hb=>?_⟩
     .simp only[kB]at hy;grind
     .simp only[kB]at hy;rcases aye.1 hy with rfl|hy
      .simp only[tc]at hb;subst hb;rfl
      grind
    .cases h
   .cases h
  |map kt=>
   simp only[Du]at h;split at h
   .rename_i Gh es hm;split at h
    .rename_i he;subst he;have⟨t,t1,t2,t3,t4⟩:=ih h;refine⟨(es,t),t1,by simp only[kB];simp[t2],λy hy=>?_,λM hM y hy b hb=>?_⟩
     .simp only[kB]at hy;grind
     .simp only[kB]at hy;rcases aye.1 hy with rfl|hy
      .simp only[tc]at hb;subst hb;rfl
      grind
    .cases h
   .cases h
  |iter ty=>
   simp only[Du]at h;split at h
   .rename_i t' es hm;split at h
    .rename_i he;subst he;have⟨t,t1,t2,t3,t4⟩:=ih h;refine⟨(es,t),t1,by simp only[kB];simp[t2],λy hy=>?_,λM hM y hy b hb=>?_⟩
     .simp only[kB]at hy;grind
     .simp only[kB]at hy;rcases aye.1 hy with rfl|hy
      .simp only[tc]at hb;subst hb;rfl
      grind
    .cases h
   .cases h
  |loop=>
   simp only[Du]at h;split at h
   .rename_i hm;have⟨t,t1,t2,t3,t4⟩:=ih h;refine⟨t,t1,by simp only[kB];simp[t2],λy hy=>?_,λM hM y hy b hb=>?_⟩
    .simp only[kB]at hy;grind
    .simp only[kB]at hy;rcases aye.1 hy with rfl|hy
     .simp only[tc]at hb;subst hb;rfl
     grind
   .cases h
  |busy=>
   simp only[Du]at h;split at h
   .rename_i hm;have⟨t,t1,t2,t3,t4⟩:=ih h;refine⟨t,t1,by simp only[kB];simp[t2],λy hy=>?_,λM hM y hy b hb=>?_⟩
    .simp only[kB]at hy;grind
    .simp only[kB]at hy;rcases aye.1 hy with rfl|hy
     .simp only[tc]at hb;subst hb;rfl
     grind
   .cases h
mutual
theorem Qt{M:List Nat}{id:Nat}:∀(v:V),v.within M=Y->v.has id=Y->id∈M
 |.agg cs,h,hh=>xe cs (by simpa only[V.within]using h) (by simpa only[V.has]using hh)
 |.b8 cs,h,hh=>xe cs (by simpa only[V.within]using h) (by simpa only[V.has]using hh)
 |.fn _ cs,h,hh=>xe cs (by simpa only[V.within]using h) (by simpa only[V.has]using hh)
 |.os j,h,hh=>by have:=T0 hh;subst this;simpa[V.within]using h
 |.iJ j _ _,h,hh=>by have:=T0 hh;subst this;simpa[V.within]using h
 |.oe j _ _,h,hh=>by have:=T0 hh;subst this;simpa[V.within]using h
 |.om j,h,hh=>by have:=T0 hh;subst this;simpa[V.within]using h
 |.Gm j _ _,h,hh=>by have:=T0 hh;subst this;simpa[V.within]using h
 |.KB j _ _ _ _ _,h,hh=>by have:=T0 hh;subst this;simpa[V.within]using h
 |.op j _,h,hh=>by have:=T0 hh;subst this;simpa[V.within]using h
 |.it j,h,hh=>by have:=T0 hh;subst this;simpa[V.within]using h
 |.yl j,h,hh=>by have:=T0 hh;subst this;simpa[V.within]using h
 |.pv _,_,hh=>by cases hh
 |.il,_,hh=>by cases hh
 |.top,_,hh=>by cases hh
theorem xe{M:List Nat}{id:Nat}:∀(cs:List V),ot M cs=Y->cX id cs=Y->id∈M
 |[],_,hh=>by cases hh
 |v::r,h,hh=>by
  simp only[ot,T1]at h;simp only[cX,ayj]at hh;rcases hh with hh|hh
  .exact Qt v h.1 hh
  .exact xe r h.2 hh
end
def ahO{f:Fr}:∀(cE:List (Nat×Sh))(t:Nat),aaa (zQ cE (cE.map λ(x:Nat×Sh)=>f x.1)) t=f t\/aaa (zQ cE (cE.map λ(x:Nat×Sh)=>f x.1)) t=.top
 |[],t=>.inr rfl
 |(d,s)::r,t=>by
  simp only[ayb,zQ,aaa,jC];cases e:Nat.beq t d with
  |true=>simp_all
  |false=>exact ahO r t
def Qu{f:Fr}{M:List Nat}:∀(cE:List (Nat×Sh)),ot M (cE.map λ(x:Nat×Sh)=>f x.1)=Y->∀t,(aaa (zQ cE (cE.map λ(x:Nat×Sh)=>f x.1)) t).within M=Y
 |[],_,t=>rfl
 |(d,s)::r,h,t=>by
  simp only[ayb,ot,T1]at h;simp only[ayb,zQ,aaa,jC];cases e:Nat.beq t d with
  |true=>simp_all
  |false=>exact Qu r h.2 t
def ahP{T:SU}{f:Fr}{m:Mem}{k:T.ty->Option R}{r:R}(h:enc T f m k=U r):∃x,k x=U r/\El (aag T x) f/\(∀id b,Pt T x id=U b->m id=U b)/\(∀t id,(aag T x t).has id=Y->(Pt T x id).isSome=Y)/\∀j cs id,Pt T x j=U (.box cs)->cX id cs=Y->(Pt T x id).isSome=true:=by
 unfold enc at h;split at h
 .rename_i gW;have⟨t,t1,t2,t3,t4⟩:=ak6 h;have⟨x,x1,x2,x3,x4⟩:=ada t1;simp only[SU.ok,T1,ayK]at gW;have nJ:∀id,id∈T.Jw.map (·.1)->(Pt T x id).isSome=true:=λid hid=>by
   unfold Pt;rw[x2];refine K8 (λy hy=>?_) ?_
   .grind
   grind
  refine⟨x,x1,λs=>?_,λid b hb=>?_,λs id hid=>nJ id ?_,λj cs id hj hh=>nJ id ?_⟩
  .simp_all[aag,ahO]
  .unfold Pt at hb;grind [JR]
  .have hw:=x4 (T.Jw.map (·.1)) λs hs=>by simp only[SU.nG,ayl]at hs;grind
   have:=Qu (M:=T.Jw.map (·.1)) T.cE hw s;unfold aag at hid;grind [Qt]
  .unfold Pt at hj;rw[x2]at hj;have⟨y,hy,h1,h2⟩:=JR hj;have:=t4 (T.Jw.map (·.1)) (λz hz=>gW.2 z hz) y hy _ h2;grind [xe,cS.within]
 .cases h
section
variable {E:Env} {w0:bI}
variable{nt:Nat}{μ:Ro}{φ:Nat->aT}{f:Fr}{m:Mem}{a:Act}{w:World}
def Rel.dec{f':Fr}{m':Mem}(h:Rel E.P E.aQ nt w0 μ φ f m a w)(hf:El f' f)(hm:∀id b,m' id=U b->m id=U b)(hl:∀t id,(f' t).has id=Y->(m' id).isSome=Y)(hb:∀j cs id,m' j=U (.box cs)->cX id cs=Y->(m' id).isSome=Y):Rel E.P E.aQ nt w0 μ φ f' m' a w:={below:=h.below,ro:=h.ro,aQ:=h.aQ,eE:=λid b hb=>h.eE id b (hm id b hb),own:=λid b g hb hg=>h.own id b g (hm id b hb) hg,inj:=λid1 id2 b1 b2 g h1 h2=>h.inj id1 id2 b1 b2 g (hm _ _ h1) (hm _ _ h2),apart:=λid b hb=>h.apart id b (hm id b hb),hU:=hb,base:=h.base,eF:=h.eF,L2:=λid st hid=>h.L2 id st (hm _ _ hid),hid:=λg o hh=>⟨(h.hid g o hh).1,(h.hid g o hh).2.1,(h.hid g o hh).2.2.1,λid b hb=>(h.hid g o hh).2.2.2 id b (hm _ _ hb)⟩,size:=h.size,defers:=h.defers,ow:=h.ow,fr:=(h.weaken hf).fr,live:=hl}
def Rel.set(h:Rel E.P E.aQ nt w0 μ φ f m a w){t:Nat}{p:PV}(hp:aH E.P μ p (cE nt w0 a t)):Rel E.P E.aQ nt w0 μ φ (jC f t (.pv p)) m a w:=
 {toaR:=h.toaR,size:=h.size,defers:=h.defers,ow:=h.ow,fr:=λs=>by
   by_cases e:s=t
   .subst e;rw[JG];exact .pv hp
   .rw[zV e];exact h.fr s,
  live:=λs id hid=>by
   by_cases e:s=t
   .simp_all
   .rw[zV e]at hid;exact h.live s id hid}
def Rel.freeze{nt:Nat}{μ:Ro}{φ:Nat->aT}{f:Fr}{m:Mem}{a:Act}{w:World}(h:Rel E.P E.aQ nt w0 μ φ f m a w){id sz:Nat}{et:TypeId}{es:List PV}(hm:m id=U (.arr sz et es)):Rel E.P E.aQ nt w0 (va μ w (φ id).g) φ f (aO m id (.xJ sz et es)) a w:=
 {toaR:=h.toaR.freeze hm,size:=h.size,defers:=h.defers.mono (qV h.toaR _),ow:=h.ow,fr:=λs=>(h.fr s).I9 (qV h.toaR _),live:=λs i hid=>by
   by_cases e:i=id
   .simp_all
   .rw[aN e];exact h.live s i hid}
def DJ{A:Type}{nt:Nat}{a:Act}{w:World}:∀{l:List (Nat×Nat)}{μ:Ro}{φ:Nat->aT}{f:Fr}{m:Mem}{k:Fr->Mem->A}{r:A},NB l f m k=r->Rel E.P E.aQ nt w0 μ φ f m a w->∃f' m' μ',k f' m'=r/\Rel E.P E.aQ nt w0 μ' φ f' m' a w
 |[],μ,φ,f,m,k,r,h,hR=>⟨f,m,μ,h,hR⟩
 |(t,sz)::l,μ,φ,f,m,k,r,h,hR=>by
  unfold NB at h;split at h
  .rename_i id hf;have hx:az E.P μ φ (.os id) (cE nt w0 a t):=hf▸hR.fr t;split at h
   next s et es hm=>have hF:=hR.freeze hm;have hA:=hF.toaR.arr (.inr (bV m id _));have hp:aH E.P (va μ w (φ id).g) (.rs s es) (cE nt w0 a t):=hA.full hF.toaR (hx.I9 (qV hR.toaR _)) (λ_ _ h=>h) (λg hg=>by simp[va,hg]);exact DJ h (hF.set hp)
   next s et es hm=>have hB:jF E.P μ φ w id (.xJ s et es):=hR.eE id _ hm;have hp:aH E.P μ (.rs s es) (cE nt w0 a t):=(hR.toaR.arr (.inr hm)).full hR.toaR hx (λ_ _ h=>h) (λg hg=>by have⟨o,ho⟩:=aym.1 (hB.2 g hg);rw[ho,hR.ro _ _ ho]);exact DJ h (hR.set hp)
   .exact DJ h hR
  .rename_i hf;have hx:az E.P μ φ .il (cE nt w0 a t):=hf▸hR.fr t;have hp:aH E.P μ (.rs sz []) (cE nt w0 a t):=by generalize cE nt w0 a t=y at hx;cases hx;exact .pj
   exact DJ h (hR.set hp)
  .exact DJ h hR
variable{id:Nat}
def XT{u:V}:∀(cs:List V)(j:Nat),cX id (cs.set j u)=Y->cX id cs=Y\/u.has id=true:=by
 intro cs j h;have⟨v,hv,hh⟩:=dF.1 h;rcases List.mem_or_eq_of_mem_set hv with h1|h1
 .exact .inl (dF.2 ⟨v,h1,hh⟩)
 simp_all
def Rel.Vm(h:Rel E.P E.aQ nt w0 μ φ f m a w){j:Nat}{cs:List V}{u v0:V}(hm:m id=U (.box cs))(hj:cs[j]?=U v0)(hu:∀x,az E.P μ φ v0 x->az E.P μ φ u x)(hl:∀i,u.has i=Y->(m i).isSome=Y):Rel E.P E.aQ nt w0 μ φ f (aO m id (.box (cs.set j u))) a w:=by
 have key:∀i b,aO m id (.box (cs.set j u)) i=U b->(i=id/\b=.box (cs.set j u))\/m i=U b:=λi b hb=>by
  by_cases e:i=id
  .simp_all
  simp_all[aN]
 have Jn:∀i,(m i).isSome=Y->(aO m id (.box (cs.set j u)) i).isSome=true:=λi hi=>by
  by_cases e:i=id
  .simp_all
  .rw[aN e];omega
 have back:∀i b,aO m id (.box (cs.set j u)) i=U b->∃b',m i=U b'/\(b.nb=Y->b'.nb=Y)/\b.rowAt=b'.rowAt:=λi b hb=>by
  rcases key i b hb with⟨rfl,rfl⟩|hb
  .exact⟨_,hm,λ_=>rfl,rfl⟩
  simp_all
 exact
 {below:=h.below,ro:=h.ro,aQ:=h.aQ,eE:=λi b hb=>by
   rcases key i b hb with⟨rfl,rfl⟩|hb
   .obtain⟨g,c,T,c1,c2,c3,c4,c5,c6⟩:=h.eE _ _ hm;refine⟨g,c,T,c1,c2,by simpa using c3,λi v x hv hx=>?_,c5,by simpa using c6⟩;rw[ayO]at hv;split at hv
    .rename_i e;subst e;split at hv
     .simp only[tc]at hv;subst hv;exact hu x (c4 j v0 x hj hx)
     .cases hv
    .exact c4 i v x hv hx
   .exact h.eE i b hb,
  own:=λi b g hb hg=>by have⟨b',mH,WY,xN⟩:=back i b hb;have⟨o1,o2⟩:=h.own i b' g mH PH;simp_all,
  inj:=λid1 id2 b1 b2 g h1 h2 g1 g2=>by have⟨b1',h1',_,r1⟩:=back id1 b1 h1;have⟨b2',h2',_,r2⟩:=back id2 b2 h2;exact h.inj id1 id2 b1' b2' g h1' h2' PH PH,
  apart:=λi b hb=>by have⟨b',mH,_,xN⟩:=back i b hb;have:=h.apart i b' mH;unfold cS.apart at this⊢;rw[xN];omega,
  hU:=λi R9 BE hi hid=>by
   rcases key i _ hi with⟨rfl,he⟩|hi
   .simp only[cS.box.injEq]at he;subst he;rcases XT _ _ hid with hid|hid
    .exact Jn _ (h.hU _ _ _ hm hid)
    simp_all
   .exact Jn _ (h.hU _ _ _ hi hid),
  base:=h.base,eF:=h.eF,
  hid:=λg o hh=>⟨(h.hid g o hh).1,(h.hid g o hh).2.1,(h.hid g o hh).2.2.1,λi b hb hg=>by have⟨b',mH,_,xN⟩:=back i b hb;exact(h.hid g o hh).2.2.2 i b' mH PH⟩,
  L2:=λi st hi=>by
   rcases key i _ hi with⟨_,he⟩|hi
   .cases he
   .exact h.L2 i st hi,
  size:=h.size,defers:=h.defers,ow:=h.ow,fr:=h.fr,
  live:=λt i hid=>Jn _ (h.live t i hid)}
variable{et:TypeId}
def Rel.aoc(h:Rel E.P E.aQ nt w0 μ φ f m a w){nid:Nat}(hn:m nid=Z)(fa:0<bq E.P et):∃φ',(φ' nid).g=Z/\Rel E.P E.aQ nt w0 μ φ' f (aO m nid (.arr (bq E.P et) et [])) a w:=by
 have hf:fresh J nid (.arr (bq E.P et) et []) f m (λf m _=>U (f,m))=U (f,aO m nid (.arr (bq E.P et) et [])):=by simp[fresh,hn]
 have⟨f1,m1,_,hk,_,_,Et⟩:=cU hf;simp only[tc,aq4]at hk;obtain⟨rfl,rfl⟩:=hk;obtain⟨φ',a1,a2,a3⟩:=Et E.P E.aQ w0 μ φ w w (cE nt w0 a) (NI Z 0 0 (bq E.P et)) h.toaR ⟨h.fr,h.live⟩ ⟨ou.refl _ _,h.toaR.ro,λ_ _ _ _ _=>rfl,ae,λφ' hp _=>by refine⟨by rw[hp];rfl,by rw[hp],rfl,fa,ae,by rw[hp];simp[maxLen],?_⟩;simp_all,gu,λg o hh=>⟨(h.hid g o hh).1,ae⟩,λst h=>by cases h⟩;exact⟨φ',by rw[a1],{toaR:=a2,size:=h.size,defers:=h.defers,ow:=h.ow,fr:=a3.fr,live:=a3.live}⟩
def DK{A:Type}{nt:Nat}{a:Act}{w:World}:∀{l:List (Nat×Nat×Nat×TypeId)}{μ:Ro}{φ:Nat->aT}{f:Fr}{m:Mem}{k:Mem->A}{r:A},NC E.P l m k=r->Rel E.P E.aQ nt w0 μ φ f m a w->∃m' φ',k m'=r/\Rel E.P E.aQ nt w0 μ φ' f m' a w
 |[],μ,φ,f,m,k,r,h,hR=>⟨m,φ,h,hR⟩
 |(id,j,nid,et)::l,μ,φ,f,m,k,r,h,hR=>by
  unfold NC at h;split at h
  .rename_i cs hm;split at h
   .rename_i hj;split at h
    .rename_i hn;split at h
     .rename_i fa;have⟨φ',g0,mo⟩:=hR.aoc hn fa;have cO:id≠nid:=λe=>av
      exact DK h (mo.Vm (by rw[aN cO];omega) hj (λx hx=>by cases hx;exact .BG g0) λi hi=>by have:=T0 hi;subst this;simp)
     .exact DK h hR
    .exact DK h hR
   .exact DK h hR
  .exact DK h hR
def xf{A:Type}{nt:Nat}{a:Act}{w:World}:∀{l:List (Nat×Nat×Nat)}{μ:Ro}{φ:Nat->aT}{f:Fr}{m:Mem}{k:Mem->A}{r:A},I7 l m k=r->Rel E.P E.aQ nt w0 μ φ f m a w->∃m' μ',k m'=r/\Rel E.P E.aQ nt w0 μ' φ f m' a w
 |[],μ,φ,f,m,k,r,h,hR=>⟨m,μ,h,hR⟩
 |(id,j,sz)::l,μ,φ,f,m,k,r,h,hR=>by
  unfold I7 at h;split at h
  .rename_i cs hm;split at h
   next hj=>exact xf h (hR.Vm hm hj (λx hx=>by cases hx;exact .pv .pj) (λi hi=>by cases hi))
   .rename_i d hj;split at h
    .rename_i s et es hd;split at h
     .exact xf h hR
     next cO=>have cO:d≠id:=λe=>cO av;have hF:=hR.freeze hd;have hA:=hF.toaR.arr (.inr (bV m d _));exact xf h (hF.Vm (by rw[aN (Ne.symm cO)];exact hm) hj (λx hx=>.pv (hA.full hF.toaR hx (λ_ _ h=>h) (λg hg=>by simp[va,hg]))) (λi hi=>by cases hi))
    next s et es hd=>have hB:jF E.P μ φ w d (.xJ s et es):=hR.eE d _ hd;exact xf h (hR.Vm hm hj (λx hx=>.pv ((hR.toaR.arr (.inr hd)).full hR.toaR hx (λ_ _ h=>h) (λg hg=>by have⟨o,ho⟩:=aym.1 (hB.2 g hg);rw[ho,hR.ro _ _ ho]))) (λi hi=>by cases hi))
    .exact xf h hR
   .exact xf h hR
  .exact xf h hR
def lT{T:Type}{l:List T}{n i:Nat}{e:T}(h:(l.take n)[i]?=U e):l[i]?=U e/\i<n:=ao
def Rel.ak7(h:Rel E.P E.aQ nt w0 μ φ f m a w){s:Nat}{es:List PV}(hm:m id=U (.arr s et es)):Rel E.P E.aQ nt w0 μ φ f (aO m id (.nest s et es)) a w:=by
 have hA:ba E.P μ φ w id s et es:=h.eE id _ hm;have key:∀i b,aO m id (.nest s et es) i=U b->(i=id/\b=.nest s et es)\/m i=U b:=λi b hb=>by
  by_cases e:i=id
  .simp_all
  simp_all[aN]
 have Jn:∀i,(m i).isSome=Y->(aO m id (.nest s et es) i).isSome=true:=λi hi=>by
  by_cases e:i=id
  .simp_all
  .rw[aN e];omega
 have hN:bw E.P μ φ w id s et es:=by
  obtain⟨h1,h2,h3,h4,h5,h6,h7⟩:=hA;refine⟨h1,h2,h3,h4,h5,h6,?_⟩;cases hg:(φ id).g with
  |none=>rw[hg]at h7;omega
  |some g=>rw[hg]at h7;obtain⟨c,T,c1,c2,c3,c4,c5⟩:=h7;exact⟨c,T,c1,c2,c3,λi e j p x he hp hx=>.pure (c4 i e j p x he hp hx),c5⟩
 have JN:∀i off,(cS.nest s et es).rowAt i off=Y->False:=λi off hr=>by
  rcases nQ hr with⟨_,_,_,e,s',rs,hb,he,hp⟩|⟨_,_,_,_,_,_,hb,_⟩
  .cases hb;obtain⟨h1,h2,h3,h4,h5,h6,h7⟩:=hA;cases hg:(φ id).g with
   |none=>simp_all
   |some g=>
    rw[hg]at h7;obtain⟨c,T,c1,c2,c3,c4,c5⟩:=h7;have hi:i<es.length:=(No.1 he).1;have hj:off<s:=ao
    have bX:i*s+off<c.size:=by have:(i+1)*s<=(φ id).cap*s:=ax8 _ aa;grind
    exact Bool.noConfusion (aH.OX (c4 i e off _ _ he hp (aq5 bX)))
  .cases hb
 have axS:∀i off,(cS.arr s et es).rowAt i off=Y->False:=vl;have hM:aR E.P E.aQ w0 μ φ (aO m id (.nest s et es)) w:=by
  refine h.toaR.acU (λ_ k=>k) (λj b' hb=>?_) (λj b' g hb hg=>?_) (λj b' hb=>?_) (λj cs i hb hh=>?_) (λj st hb=>?_)
  .rcases key j b' hb with⟨rfl,rfl⟩|hb
   .exact hN
   .exact h.eE j b' hb
  .rcases key j b' hb with⟨rfl,rfl⟩|hb
   .exact⟨j,_,hm,.inl (oA JN hg),λ_=>rfl,rfl⟩
   grind
  .rcases key j b' hb with⟨rfl,rfl⟩|hb
   .exact zW JN
   .exact h.apart j b' hb
  .rcases key j _ hb with⟨_,hb⟩|hb
   .cases hb
   .exact Jn _ (h.hU j cs i hb hh)
  grind
 exact{toaR:=hM,size:=h.size,defers:=h.defers,ow:=h.ow,fr:=h.fr,live:=λt i hid=>Jn _ (h.live t i hid)}
def Qv{A:Type}{nt:Nat}{a:Act}{w:World}:∀{l:List Nat}{μ:Ro}{φ:Nat->aT}{f:Fr}{m:Mem}{k:Mem->A}{r:A},Xk l m k=r->Rel E.P E.aQ nt w0 μ φ f m a w->∃m',k m'=r/\Rel E.P E.aQ nt w0 μ φ f m' a w
 |[],μ,φ,f,m,k,r,h,hR=>⟨m,h,hR⟩
 |id::l,μ,φ,f,m,k,r,h,hR=>by
  unfold Xk at h;split at h
  next s et es hm=>exact Qv h (hR.ak7 hm)
  .exact Qv h hR
def Rel.cut(h:Rel E.P E.aQ nt w0 μ φ f m a w){j d len s:Nat}{cs:List V}{es:List PV}(hm:m id=U (.box cs))(hj:cs[j]?=U (.iJ d 0 len))(hd:m d=U (.arr s et es))(cO:d≠id):∃φ',Rel E.P E.aQ nt w0 μ φ' (ga d f) (aO (aO (bO (b9 d m) d) d (.arr s et (es.take len))) id (.box ((cs.map (zN d)).set j (.os d)))) a w:=by
 obtain⟨m',hm'⟩:∃m',m'=aO (aO (bO (b9 d m) d) d (.arr s et (es.take len))) id (.box ((cs.map (zN d)).set j (.os d))):=⟨_,rfl⟩;rw[<-hm'];obtain⟨g0,c,T,c1,c2,c3,c4,c5,c6⟩:=h.eE _ _ hm;have hA:ba E.P μ φ w d s et es:=h.eE d _ hd;have xQ:j<cs.length:=(No.1 hj).1;have hx:=c4 j _ _ hj (aq5 aa);obtain⟨φ',f1,f2,f3,f4⟩:∃φ':Nat->aT,(∀i,i≠d->φ' i=φ i)/\(φ' d).g=(φ d).g/\ba E.P μ φ' w d s et (es.take len)/\az E.P μ φ' (.os d) c[j]:=by
  obtain⟨h1,h2,h3,h4,h5,h6,h7⟩:=hA;generalize c[j]=x at hx;cases hx with
  |zR hg=>refine⟨φ,λ_ _=>rfl,rfl,?_,.BG hg⟩;rw[hg]at h7;obtain⟨rfl,h7⟩:=h7;refine⟨h1,h2,h3,h4,ae,h6,?_⟩;simp_all
  | @iJ _ _ _ cap g ad hg hl ha hc hc'=>
   rw[hg]at h7;obtain⟨q,Tq,q1,q2,q3,q4,q5⟩:=h7;have hlen:(es.take len).length=len:=av
   have had:ad=⟨g,0,Z⟩:=av
   subst had;refine⟨λi=>if i=d then{φ d with cap:=cap,len:=len}else φ i,λi hi=>IT hi,ae,⟨by simp[hlen],by simpa using h2,h3,h4,λi e he=>h5 i e (lT he).1,ah,?_⟩,?_⟩
   .simp only[By,hg];refine⟨q,Tq,q1,ayn (ax8 _ aa) q2,aa,λi e j p x he hp hx=>q4 i e j p x (lT he).1 hp hx,λi x hi hx=>q5 i x (Nat.lt_of_lt_of_le hi (ax8 _ aa)) hx⟩
   .have:=az.os (P:=E.P) (μ:=μ) (φ:=λi=>if i=d then{φ d with cap:=cap,len:=len}else φ i) (id:=d) (g:=g) (by simp[hg]);simpa using this
 have key:∀i b,m' i=U b->(i=id/\b=.box ((cs.map (zN d)).set j (.os d)))\/(i=d/\b=.arr s et (es.take len))\/(i≠id/\i≠d/\∃b',m i=U b'/\b=jD d b'):=λi b hb=>by
  rw[hm']at hb;by_cases e:i=id
  .simp_all
  .rw[aN e]at hb;by_cases e':i=d
   .simp_all
   simp_all[aN,iA]
 have Jn:∀i,(m i).isSome=Y->(m' i).isSome=true:=λi hi=>by
  rw[hm'];by_cases e:i=id
  .simp_all
  .rw[aN e];by_cases e':i=d
   .simp_all
   simp_all[aN,Ct]
 have aod:∀{i:Nat}{b':cS},(jD d b').names i=Y->i≠d:=λ{i b'}hn=>by cases b'<;>simp only[jD,cS.names]at hn<;>first|cases hn|exact(Ir hn).2
 have hM:aR E.P E.aQ w0 μ φ' m' w:=by
  refine h.toaR.acU (λ_ k=>k) (λi b' hb=>?_) (λi b' g hb hg=>?_) (λi b' hb=>?_) (λi R9 i' hb hh=>?_) (λi st hb=>?_)
  .rcases key i b' hb with⟨rfl,rfl⟩|⟨rfl,rfl⟩|⟨e1,e2,b2,yO,rfl⟩
   .refine⟨g0,c,T,ao,c2,by simpa using c3,λn v x hv U0=>?_,c5,ao⟩;rw[ayO]at hv;split at hv
    .simp_all
    .simp only[AT,asI]at hv;obtain⟨v',Tl,rfl⟩:=hv;exact((c4 n v' x Tl U0).kill d).mono (λ_ _ h=>h) λi hi=>f1 i (Gx hi).2
   .exact f3
   .exact(h.eE i b2 yO).kill.dd (λk hk=>f1 k (aod hk)) (f1 i e2) (λ_ _ h=>h) (λ_ _=>rfl)
  .rcases key i b' hb with⟨rfl,rfl⟩|⟨rfl,rfl⟩|⟨e1,e2,b2,yO,rfl⟩
   .refine⟨i,_,hm,.inl ?_,λ_=>rfl,rfl⟩;have:=oA (by intro i off h;simp[cS.rowAt]at h) hg;grind
   .refine⟨i,_,hd,.inl ?_,λ_=>rfl,rfl⟩;grind [oA,vl]
   .refine⟨i,b2,yO,?_,λWY=>by rw[Is]at WY;omega,rfl⟩;rw[f1 i e2]at hg;exact iF.1 hg
  .rcases key i b' hb with⟨rfl,rfl⟩|⟨rfl,rfl⟩|⟨e1,e2,b2,yO,rfl⟩
   .grind [zW,cS.rowAt]
   .exact zW vl
   .rw[f1 i e2];exact Ez.2 (h.apart i b2 yO)
  .rcases key i _ hb with⟨rfl,hb⟩|⟨rfl,hb⟩|⟨e1,e2,b2,yO,e⟩
   .simp only[cS.box.injEq]at hb;subst hb;rcases XT _ _ hh with hh|hh
    .exact Jn _ (h.hU _ _ _ hm (Ir hh).1)
    .have:=T0 hh;simp_all
   .cases hb
   .cases b2 with
    |box cs2=>simp only[jD,cS.box.injEq]at e;subst e;exact Jn _ (h.hU _ _ _ yO (Ir hh).1)
    |_=>simp[jD]at e
  .rcases key i _ hb with⟨rfl,hb⟩|⟨rfl,hb⟩|⟨e1,e2,b2,yO,e⟩
   .cases hb
   .cases hb
   .cases b2 with
    |loop st2=>simp_all[jD,cS.loop.injEq]
    |_=>simp[jD]at e
 exact⟨φ',{toaR:=hM,size:=h.size,defers:=h.defers,ow:=h.ow,fr:=(λt=>((h.fr t).kill d).mono (λ_ _ h=>h) λi hi=>f1 i (Gx hi).2),live:=λt i hid=>Jn _ (h.live t i (Gx hid).1)}⟩
def DL{A:Type}{nt:Nat}{a:Act}{w:World}:∀{l:List (Nat×Nat)}{μ:Ro}{φ:Nat->aT}{f:Fr}{m:Mem}{k:Fr->Mem->A}{r:A},ND l f m k=r->Rel E.P E.aQ nt w0 μ φ f m a w->∃f' m' φ',k f' m'=r/\Rel E.P E.aQ nt w0 μ φ' f' m' a w
 |[],μ,φ,f,m,k,r,h,hR=>⟨f,m,φ,h,hR⟩
 |(id,j)::l,μ,φ,f,m,k,r,h,hR=>by
  unfold ND at h;split at h
  .rename_i cs hm;split at h
   .rename_i d len hj;split at h
    .rename_i s et es hd;split at h
     .exact DL h hR
     next cO=>have cO:d≠id:=λe=>cO av;have⟨φ',mo⟩:=hR.cut hm hj hd cO;exact DL h mo
    .exact DL h hR
   .exact DL h hR
  .exact DL h hR
def XU{A:Type}{T:SU}{k:Fr->Mem->A}{r:A}(h:SY E.P T f m k=r)(hR:Rel E.P E.aQ nt w0 μ φ f m a w):∃f' m' μ' φ',k f' m'=r/\Rel E.P E.aQ nt w0 μ' φ' f' m' a w:=by unfold SY at h;have⟨_,_,_,h,hR⟩:=DL h hR;have⟨m1,φ1,h,hR⟩:=DK h hR;have⟨m',_,h,hR⟩:=xf h hR;have⟨m',h,hR⟩:=Qv h hR;have⟨f',m',μ',h,hR⟩:=DJ h hR;grind
def ahQ:Ex->Exit
 |.normal=>.normal
 |.exit id=>.exit id
 |.ret=>.ret
def Rel.ahR(h:Rel E.P E.aQ nt w0 μ φ f m a w):Rel E.P E.aQ nt w0 μ φ f m a {w with drawn:=w.drawn+1}:={toaR:=h.toaR.drew,size:=h.size,defers:=h.defers,ow:=h.ow,fr:=h.fr,live:=h.live}
def ae0{rd:Option Nat}(hE:mn E)(hY:yZ E.P E.aQ E.fn.ntmps E.yl w0){R:Type}{ops:Array Oper}{draw:Bool}{k:Ex->Fr->Mem->Option R}{r:R}(h:gK E (.region id ops draw) f m k=U r){Q:Exit->Act->World->Prop}(hR:Rel E.P E.aQ E.fn.ntmps w0 μ φ f m a w)(hQ:∀f' m' μ' φ' a' w',k .normal f' m'=U r->Rel E.P E.aQ E.fn.ntmps w0 μ' φ' f' m' a' w'->Q .normal a' w'):(Code.region id ops draw).wpIn (FR rd) 0 E.P Q a w:=by
 simp only[gK]at h;cases draw with
 |false=>
  simp only[AI,OF]at h;refine wpIn_region ?_;have hmz:∀x∈(I ops.size).zip ops.toList,ops[x.1]?=U x.2:=λx hx=>by have:=(Cy (l:=ops.toList) (i:=x.1) (o:=x.2)).1 aa;simp_all
  have:=lM (rd:=rd) hE hY _ (.inl rfl) h hmz (by intro x hx g hg;cases hg) (λh=>aa) μ φ a w Q [] hR (by intro g hg;cases hg) λf' m' μ' φ' a' w' hk mo _ _=>hQ f' m' μ' φ' a' w' hk mo;simp_all[ayF,List.map_fst_zip]
 |true=>
  simp only[By]at h;split at h
  .refine wpIn_region_any hE.mixed (aeY (k:=λf m=>k .normal f m) hE hY hQ _ [] [] f m h ae (λi o _ hi=>by rcases hi with hi|⟨x,hx,_⟩<;>simp_all) ops.size _ ae (count_le _) N0 (λi hi=>by cases hi) (λi hi=>by rw[xd]at hi;cases hi) w0.hid μ φ a _ ⟨λ_ _ h=>h,λx _ hx=>(by rw[xd]at hx;cases hx),λx _ y _ hx=>(by rw[xd]at hx;cases hx)⟩ (hR.ahR.weaken λt=>?_));by_cases hx:∃x∈([].filter λx:Nat×Oper=> !ay (Array.replicate ops.size J) x.1)++xL E ops [],x.2.dst=U t
   .exact .inr (rY (.inr hx))
   .exact .inl (k9 λx L6 hxd=>hx ⟨x,L6,hxd⟩)
  split at h
  .rename_i hi;refine wpIn_region_any hE.mixed ?_;split at h
   next uX=>exact Qp hE hY (.inl rfl) (λ_ o ho=>(Bool.and_eq_true_iff.1 (ayK.1 uX o (azQ.2 ho))).1) hi h hR.ahR hQ
   .exact Qp hE hY (.inr rfl) (λh=>aa) hi h hR.ahR hQ
  .cases h
end
theorem ak8{g:FuncId}{fn:Func}(hf:P.funcs[g]?=U fn)(amP:(fn.name== "runtime.NumGoroutine")=J)(hb:fn.body=U c){args:Array Value}{w:World}:(callFunc g args).run P w=.ok (.enter g args) w:=Iw hf amP hb
def ae1{nt:Nat}{w0:bI}{a:Act}{t:Nat}:cE nt w0 a (t+nt)=w0.sv (t+nt):=by unfold cE;rw[IT aa]
def GM(c:Code):Prop:=∀{E:Env}{w0:bI}{rd:Option Nat}(_:mn E)(_:yZ E.P E.aQ E.fn.ntmps E.yl w0)(_:E.rdb=J->rd=Z){R:Type}{f:Fr}{m:Mem}{k:Ex->Fr->Mem->Option R}{r:R},gK E c f m k=U r->∀{μ:Ro}{φ:Nat->aT}{a:Act}{w:World}{Q:Exit->Act->World->Prop},Rel E.P E.aQ E.fn.ntmps w0 μ φ f m a w->(∀e f' m' μ' φ' a' w',k e f' m'=U r->Rel E.P E.aQ E.fn.ntmps w0 μ' φ' f' m' a' w'->Q (ahQ e) a' w')->c.wpIn (FR rd) 0 E.P Q a w
variable{as b:Code}{ps:Array Nat}
def ae2(ihA:GM as)(ihB:GM b){E:Env}(hE:mn E){w2:bI}{lid l ntI:Nat}{rc:Loop}{fid:Nat}(Jm:w2.rc lid=U (l,rc))(u9:rc.params=ps)(has:rc.assign=as)(hb:rc.body=b)(sB:rc.tmps.size=E.fn.ntmps)(hsv:∀t,t<E.fn.ntmps->w2.sv (t+ntI)=rc.tmps.getD t undef):amN E.P E.aQ ntI (λ_ nt _ id args F m k=>bif Nat.beq id lid then roundOf (gK {E with fid:=fid,yl:=Jx,rdb:=Y} as) (gK {E with fid:=fid,yl:=Jx,rdb:=Y} b) lid E.fn.ntmps ps.toList nt args F m k else Z) w2:=by
 intro R site id args F m k r hy μ φ ρ w xs hM hF hρ hl hr UT g hg;dsimp only at hy;cases hid:Nat.beq id lid with
 |false=>rw[hid]at hy;cases hy
 |true=>
  rw[hid]at hy;have hid:=T0 hid;subst hid;simp only[cond_true]at hy;unfold roundOf at hy;split at hy
  .rename_i Sw;split at hy
   .rename_i OY;obtain⟨g',rc',l1,l2,l3⟩:=hM.L2 id _ Sw;rw[Jm]at l2;simp only[tc,aq4]at l2;obtain⟨rfl,rfl⟩:=l2;rw[l1]at hg;simp only[tc]at hg;subst hg;have PN:xs.size=(ZY.ready.obj rc).params.size:=by
     have:ps.toList.length=ps.size:=ae
     show xs.size=rc.params.size;rw[u9];omega
    refine⟨_,_,_,_,run_yield l3 PN,?_⟩;have hE':mn {E with fid:=fid,yl:=Jx,rdb:=Y}:=⟨hE.mixed,hE.lp,hE.ctx,hE.own,hE.inl,hE.rng⟩;have am0:=TK (P:=E.P) (μ:=μ) (φ:=φ) ps.toList args xs.toList (Gp ntI F) rc.tmps sB aa (λt ht=>by have:=hF.fr (t+ntI);rw[hρ _ aa,hsv t ht]at this;exact this) (λi v x hv hx=>hr i v x hv (by simpa using hx));have hR3:Rel E.P E.aQ E.fn.ntmps {w2 with sv:=λt=>ρ (t-E.fn.ntmps),eF:=μ,ow:=λ_=>Z} μ φ (acG E.fn.ntmps (Pu ps.toList args (Gp ntI F)) F) m {tmps:=((ZY.ready.obj rc).params.zip xs).foldl (λtmps(t,a)=>tmps.setIfInBounds t a) (ZY.ready.obj rc).tmps,defers:=[]} w:=by
     have e:((ZY.ready.obj rc).params.zip xs).foldl (λtmps(t,a)=>tmps.setIfInBounds t a) (ZY.ready.obj rc).tmps=(ps.toList.zip xs.toList).foldl (λtmps(x:Nat×Value)=>tmps.setIfInBounds x.1 x.2) rc.tmps:=by rw[ahN];show(rc.params.toList.zip xs.toList).foldl _ rc.tmps=_;rw[u9]
     rw[e];refine{toaR:=hM.Gw rfl rfl (λ_ _ h=>h) (λ_ _ _=>rfl),size:=am0.1,defers:=.nil _ _ _,ow:=λ_ _ h=>(by cases h),fr:=λt=>?_,live:=λt id hid=>?_}
     .unfold acG cE;by_cases ht:t<E.fn.ntmps
      .rw[show Nat.blt t E.fn.ntmps=Y by simp_all,BY ht];exact am0.2 t ht
      .rw[show Nat.blt t E.fn.ntmps=J by rw[<-ay1,azt];omega,IT ht];exact hF.fr _
     .unfold acG at hid;cases e:Nat.blt t E.fn.ntmps with
      |true=>
       rw[e]at hid;rcases Qs _ _ _ _ hid with h|h
       .exact UT id h
       .exact hF.live _ id h
      |false=>rw[e]at hid;exact hF.live _ id hid
    refine roundIn_of_wpIn trivial ?_;show(ZY.ready.obj rc).assign.wpIn (FR (U l)) 0 E.P _ _ _;have ha':(ZY.ready.obj rc).assign=as:=has;rw[ha'];refine ihA (rd:=U l) hE' (KL _ _ _ _) (λh=>by cases h) hy hR3 λe f1 m1 μ1 φ1 a1 w1 hk1 L5=>?_;split at hk1
    .rename_i hm1;obtain⟨g1,rc1,p1,p2,p3⟩:=L5.L2 id _ hm1;have p2:w2.rc id=U (g1,rc1):=p2;rw[Jm]at p2;simp only[tc,aq4]at p2;obtain⟨rfl,rfl⟩:=p2;refine⟨_,run_beginRound p3 rfl,?_⟩;have mH:(ZY.ready.obj rc).body=b:=hb;refine Eq.mpr (congrArg (λc:Code=>c.wpIn (FR (U l)) 0 E.P _ a1 _) mH) ?_;have EA:=L5.toaR.turn (st':=.busy) hm1 p1 Jm;have awg:Rel E.P E.aQ E.fn.ntmps {w2 with sv:=λt=>ρ (t-E.fn.ntmps),eF:=μ,ow:=λ_=>Z} μ1 φ1 f1 (aO m1 id (.loop .busy)) a1 (w1.putObj l (.loop {ZY.ready.obj rc with state:=.busy})):=
      {toaR:=EA,size:=L5.size,defers:=L5.defers,ow:=L5.ow,fr:=L5.fr,live:=λt j hj=>by
        by_cases e:j=id
        .subst e;simp
        .rw[aN e];exact L5.live t j hj}
     refine ihB (rd:=U l) hE' (KL _ _ _ _) (λh=>by cases h) hk1 awg λe f2 m2 μ2 φ2 a2 w2' Sc Mq=>?_;split at Sc
     .rename_i dC;obtain⟨g2,rc2,q1,q2,q3⟩:=Mq.L2 id _ dC;have q2:w2.rc id=U (g2,rc2):=q2;rw[Jm]at q2;simp only[tc,aq4]at q2;obtain⟨rfl,rfl⟩:=q2;have hle:XF μ μ2:=Mq.eF;have hFp:cR E.P μ2 φ2 m2 (Gp E.fn.ntmps f2) ρ:=by refine⟨λt=>?_,λt id hid=>Mq.live _ id hid⟩;have:=Mq.fr (t+E.fn.ntmps);simp_all[ae1,Gp]
      have fin:∀(st:ZY)(v:Bool),k (.pv (.bool v)) (Gp E.fn.ntmps f2) (aO m2 id (.loop st))=U r->∃v' f' m' y μ' φ',k v' f' m'=U r/\Ending.returned (.bool v)=.returned y/\XF μ μ'/\aR E.P E.aQ w2 μ' φ' m' (w2'.putObj l (.loop (st.obj rc)))/\cR E.P μ' φ' m' f' ρ/\az E.P μ' φ' v' y/\∀id,v'.has id=Y->(m' id).isSome=true:=by
       intro st v hk;have hM2:=Mq.toaR.turn (st':=st) dC q1 Jm;refine⟨_,_,_,_,μ2,φ2,hk,rfl,hle,hM2.Gw rfl rfl (λb o hb=>hle b o (hM.eF b o hb)) (λ_ _ _=>rfl),⟨hFp.fr,λt j hj=>?_⟩,.pv .bool,λid hid=>by cases hid⟩;by_cases e:j=id
       .subst e;simp
       .rw[aN e];exact hFp.live t j hj
      cases e with
      |normal=>exact⟨_,_,run_endRound Z q3,fin .ready Y Sc⟩
      |exit j=>exact⟨_,_,run_endRound (U (.exit j)) q3,fin (.done (.exit j)) J Sc⟩
      |ret=>exact⟨_,_,run_endRound (U .ret) q3,fin (.done .ret) J Sc⟩
     .cases Sc
    .cases hk1
   .cases hy
  .cases hy
def ahS(ihA:GM as)(ihB:GM b){E:Env}(hE:mn E){w2:bI}{lid l ntI:Nat}{rc:Loop}{fid:Nat}(Jm:w2.rc lid=U (l,rc))(u9:rc.params=ps)(has:rc.assign=as)(hb:rc.body=b)(sB:rc.tmps.size=E.fn.ntmps)(hsv:∀t,t<E.fn.ntmps->w2.sv (t+ntI)=rc.tmps.getD t undef):yZ E.P E.aQ ntI (λ_ nt _ id args F m k=>bif Nat.beq id lid then roundOf (gK {E with fid:=fid,yl:=Jx,rdb:=Y} as) (gK {E with fid:=fid,yl:=Jx,rdb:=Y} b) lid E.fn.ntmps ps.toList nt args F m k else Z) w2:=λH=>ae2 ihA ihB hE (w2:={w2 with hid:=H}) Jm u9 has hb sB hsv
def ak9{μ:Ro}{φ:Nat->aT}{m:Mem}{v:V}{g:FuncId}{caps:List V}{y:Value}(h:anD v=U (g,caps))(hv:az P μ φ v y)(hl:∀id,v.has id=Y->(m id).isSome=Y):∃xs,y=.func (.func g) #[] xs/\caps.length=xs.size/\(∀(i:Nat)v x,caps[i]?=U v->xs[i]?=U x->az P μ φ v x)/\∀id,cX id caps=Y->(m id).isSome=true:=by
 unfold anD at h;split at h
 .rename_i g0 c0;cases e:Nat.blt g0 Pg with
  |false=>rw[e]at h;cases h
  |true=>
  rw[e]at h;simp only[cond_true,tc,aq4]at h;obtain⟨rfl,rfl⟩:=h;cases hv with
  | @fn _ _ xs h1 h2=>grind [zS,id,V.has]
 .rename_i g0 c0;cases e:Nat.blt g0 Pg with
  |false=>rw[e]at h;cases h
  |true=>
  rw[e]at h;simp only[cond_true,tc,aq4]at h;obtain⟨rfl,rfl⟩:=h;cases hv with
  |pv hv=>cases hv with
   | @fn _ _ xs h1 h2=>
    refine⟨xs,zS e,by simpa using h1,λi v x hv hx=>?_,λid hid=>?_⟩
    .simp only[AT,asI]at hv;obtain⟨q,hq,rfl⟩:=hv;exact .pv (h2 i q x hq hx)
    .obtain⟨v,hv,hh⟩:=dF.1 hid;obtain⟨q,_,rfl⟩:=ayl.1 hv;cases hh
 .cases h
def Vn{g:Operand}{ps:Array Tmp}(ihA:GM as)(ihB:GM b):GM (.rangeFunc g ps as b):=by
 intro E w0 rd hE hY KU R f m k r h μ φ a w Q hR hQ;simp only[gK]at h;split at h
 .cases h
 rename_i hrb;have KU:=KU (by simpa using hrb);subst KU;split at h;rotate_left
 .cases h
 rename_i p0 pr Ta;generalize axT:dm E (U p0)=lid at h;have⟨f1,m1,_,h,Sw,Gk,awh⟩:=cU h;obtain⟨hm0,rfl,rfl⟩:=Gk rfl;refine wpIn_rangeFunc λfn _=>?_;obtain⟨rec,XV⟩:∃rec:Loop,rec={state:=.ready,pending:=Z,fn,tmps:=a.tmps,params:=ps,assign:=as,body:=b,defers:=w.heap.size}:=⟨_,rfl⟩;obtain⟨wD,hwD⟩:∃wD,wD=w.alloc (.deferred (U [])):=⟨_,rfl⟩;obtain⟨W1,hW1⟩:∃W1,W1=wD.alloc (.loop rec):=⟨_,rfl⟩;obtain⟨l,hl⟩:∃l,l=wD.heap.size:=⟨_,rfl⟩;have hl':l=w.heap.size+1:=by rw[hl,hwD];simp
 obtain⟨μD,aoe⟩:∃μD,μD=K6 μ w (.deferred (U [])):=⟨_,rfl⟩;have ala:XF μ μD:=aoe▸XS hR.toaR _;have hMD:aR E.P E.aQ w0 μD φ m wD:=aoe▸hwD▸hR.toaR.ak4 _;have hD:μD w.heap.size=U (.deferred (U [])):=by rw[aoe];simp[K6]
 obtain⟨w1,hw1⟩:∃w1:bI,w1={w0 with eF:=μD,rc:=λi=>if i=lid then U (l,rec)else w0.rc i}:=⟨_,rfl⟩;have asb:aR E.P E.aQ w1 μD φ m wD:=hw1▸hMD.Gw rfl rfl (λ_ _ h=>h) (λid st hid=>IT λe=>av);have OM:cE E.fn.ntmps w1 a=cE E.fn.ntmps w0 a:=by subst hw1;rfl
 have hFD:cR E.P μD φ m f1 (cE E.fn.ntmps w0 a):=⟨λt=>(hR.fr t).I9 ala,hR.live⟩;have asc:w1.rc lid=U (l,rec):=av
 have aha:W1.heap[l]?=U (.loop rec):=by grind [heap_alloc_new]
 have UX:ZY.ready.obj rec=rec:=by subst XV;rfl
 have qX:pk E.P w1 μD φ m wD W1 lid (.loop .ready) (NI (U l) 0 0 0):=by
  rw[hW1];refine pk.alloc asb (by rw[hl]) (λφ' hp _=>⟨l,rec,by rw[hp],?_⟩) gu λst fL=>?_
  .simp_all
  simp_all
 have⟨φ1,awi,EA,OO⟩:=awh E.P E.aQ w1 μD φ wD W1 (cE E.fn.ntmps w0 a) (NI (U l) 0 0 0) asb hFD qX;have L5:Rel E.P E.aQ E.fn.ntmps w1 μD φ1 f1 (aO m lid (.loop .ready)) a W1:={toaR:=EA,size:=hR.size,defers:=(by have:=hR.defers.mono ala;subst hw1;omega),ow:=(by subst hw1;exact λb o hb=>ala b o (hR.eF b o (hR.ow b o hb))),fr:=λt=>by rw[OM];exact OO.fr t,live:=OO.live};have TA:=aL L5 g;split at h;rotate_left
 .cases h
 rename_i gid caps za;have⟨xs,hgv,hlen,nI,awj⟩:=ak9 za TA.1 TA.2
 .clear TA;obtain⟨fnI,cI,f1,f2,f3,fO⟩:=hE.rng _ _ _ _ _ _ _ _ _ h;have hyl:az E.P μD φ1 (.yl lid) (.func (.yield l) #[] #[]):=.yl (by rw[awi]);have hC:=fO w1 μD φ1 (cE E.fn.ntmps w0 a) W1 (#[.func (.yield l) #[] #[]]++xs) EA OO ah (λi v x hv hx=>by
    grind) (λid hid=>by
    simp only[cX,ayj]at hid;rcases hid with hid|hid
    .have:=T0 hid;subst this;simp
    .exact awj id hid) (by
   refine λH R site id args F m k r hy=>ahS (fid:=site*4096+E.fid%4096) ihA ihB hE (w2:={w1 with sv:=λt=>cE E.fn.ntmps w0 a (t-fnI.ntmps)}) (rc:=rec) (l:=l) (lid:=lid) (ps:=ps) asc (by subst XV;rfl) (by subst XV;rfl) (by subst XV;rfl) (by subst XV;exact hR.size) (λt ht=>by grind [cE,Nat.add_sub_cancel,wW]) H R site id args F m k r hy)
  refine⟨l,[{target:=.collected w.heap.size,args:= #[]}],W1,{target:=.fn (.func gid) xs,args:= #[.func (.yield l) #[] #[]]},W1,gid,#[.func (.yield l) #[] #[]]++xs,W1,?_,?_,?_,?_,?_,?_⟩
  .have:=run_enterLoop_outer (P:=E.P) (w:=w) fn a.tmps ps as b;rw[hl',hW1,hwD,XV];exact this
  .simp only[resolve,hgv];simp[go_sem]
  .exact λ_ _=>trivial
  .grind [invoke,ak8]
  .decide
  .refine FR.acX (hC.mono ?_);rintro e w' ⟨v,f',m',y,μ',φ',hk,rfl,hM',hF',_,_⟩;have asd:XF μD μ':=by have:=hM'.eF;subst hw1;omega
   have hD':μ' w.heap.size=U (.deferred (U [])):=asd _ _ hD;have main:∀st,m' lid=U (.loop st)->st≠.busy->∃w4,(Instr.endLoop l).run E.P w'=.ok (st.obj rec).pending w4/\Rel E.P E.aQ E.fn.ntmps w0 μ' φ' (ga lid f') (bO (b9 lid m') lid) {a with defers:=[{target:=.collected w.heap.size,args:= #[]}]++a.defers} w4:=by
    intro st fL hnb;have⟨g',rc',p1,p2,p3⟩:=hM'.L2 lid st fL;rw[asc]at p2;simp only[tc,aq4]at p2;obtain⟨rfl,rfl⟩:=p2;have JD:=hM'.own lid _ _ fL (.inl p1);have hMf:=hM'.forget lid;have JN:∀id b,bO (b9 lid m') lid id=U b->¬b.owns (φ' id) l:=λid b' hid e=>by obtain⟨cO,b2,yO,rfl⟩:=iA hid;exact cO (hM'.inj id lid b2 _ l yO fL (iF.1 e) (.inl p1))
    have hM4:=hMf.other (.loop {st.obj rec with state:=.exhausted}) JD.1 (JD.2 rfl) JN (by
     cases hq:w1.hid l with
     |none=>rfl
     |some o=>exact absurd (.inl p1) ((hM'.hid l o hq).2.2.2 lid _ fL))
    have hM5:aR E.P E.aQ w0 μ' φ' (bO (b9 lid m') lid) (w'.putObj l (.loop {st.obj rec with state:=.exhausted})):=hM4.Gw (by subst hw1;rfl) (by subst hw1;rfl) (λb o hb=>asd b o (ala b o (hR.eF b o hb))) (λid st hid=>by
      have cO:id≠lid:=λe=>by subst e;simp at hid
      subst hw1;exact(IT cO).symm)
    refine⟨_,run_endLoop p3 (by cases st<;>simp_all[ZY.obj]),{toaR:=hM5,size:=hR.size,defers:=?_,ow:=hR.ow,fr:=?_,live:=?_}⟩
    .obtain⟨Ds,e,Z2,hDs⟩:=hR.defers;have bX:∀b o,μ b=U o->b<w.heap.size:=λb o hb=>(auA.1 (hR.ro b o hb)).1;refine⟨w.heap.size::Ds,by simp[e],azA.2 ⟨λhd=>?_,Z2⟩,λD hd=>?_⟩
     .grind
     .rcases aye.1 hd with rfl|hd
      .refine⟨hR.below.size,?_,hD'⟩;cases ho:w0.ow w.heap.size with
       |none=>rfl
       |some o=>have:=bX _ _ (hR.eF _ _ (hR.ow _ _ ho));omega
      grind
    .exact(hF'.forget lid).fr
    .exact(hF'.forget lid).live
   dsimp only at hk;split at hk
   next fL=>have⟨w4,e1,e2⟩:=main .ready fL ae;exact⟨Z,w4,e1,hQ .normal _ _ _ _ _ _ hk e2⟩
   .rename_i j fL;have⟨w4,e1,e2⟩:=main (.done j) fL ae;refine⟨U j.code,w4,e1,?_⟩;cases j with
    |ret=>exact wpIn_ret (hQ .ret _ _ _ _ _ _ hk e2)
    |exit id=>exact wpIn_exit (hQ (.exit id) _ _ _ _ _ _ hk e2)
   .cases hk
def ahT:∀(c:Code),GM c:=by
 intro c;induction c with
 |skip=>intro E w0 rd hE hY KU R f m k r h μ φ a w Q hR hQ;simp only[gK]at h;exact wpIn_skip (hQ .normal _ _ _ _ _ _ h hR)
 |region id ops draw=>intro E w0 rd hE hY KU R f m k r h μ φ a w Q hR hQ;exact ae0 hE hY h hR (hQ .normal)
 |seq x y ihx ihy=>
  intro E w0 rd hE hY KU R f m k r h μ φ a w Q hR hQ;simp only[gK]at h;refine wpIn_seq (ihx hE hY KU h hR λe f' m' μ' φ' a' w' hk mo=>?_);cases e with
  |normal=>exact ihy hE hY KU hk mo hQ
  |exit id=>exact hQ (.exit id) _ _ _ _ _ _ hk mo
  |ret=>exact hQ .ret _ _ _ _ _ _ hk mo
 |cond c x y ihx ihy=>
  intro E w0 rd hE hY KU R f m k r h μ φ a w Q hR hQ;simp only[gK]at h;split at h
  .rename_i t b hb;have hv:a.eval (.tmp t)=.bool b:=by have:=(aL hR (.tmp t)).1;grind [Af]
   have mH:f t=.pv (.bool b):=(Qb hb).2;have hle:El (jC f t (.pv (.bool b))) f:=λs=>by
    simp only[jC];cases e:Nat.beq s t with
    |true=>simp_all
    |false=>simp
   cases b with
   |true=>simp only[By]at h;exact wpIn_cond_true hv (ihx hE hY KU h (hR.weaken hle) hQ)
   |false=>simp only[AI,OF]at h;exact wpIn_cond_false hv (ihy hE hY KU h (hR.weaken hle) hQ)
  .cases h
 |block id b ih=>
  intro E w0 rd hE hY KU R f m k r h μ φ a w Q hR hQ;simp only[gK]at h;refine wpIn_block (ih hE hY KU h hR λe f' m' μ' φ' a' w' hk mo=>?_);cases e with
  |normal=>exact hQ .normal _ _ _ _ _ _ hk mo
  |exit j=>
   simp only[Ex.agT]at hk;simp only[ahQ,Exit.inBlock];split at hk
   next hj=>rw[BY hj];exact hQ .normal _ _ _ _ _ _ hk mo
   next hj=>rw[IT hj];exact hQ (.exit j) _ _ _ _ _ _ hk mo
  |ret=>exact hQ .ret _ _ _ _ _ _ hk mo
 |loop b ih=>
  intro E w0 rd hE hY KU R f m k r h μ φ a w Q hR hQ;simp only[gK]at h;split at h
  .rename_i T _;have⟨f,m,μ,φ,h,hR⟩:=XU h hR;have⟨s,hs,s1,s2,s3,s4⟩:=ahP h;obtain⟨n0,hs⟩:=hE.lp _ _ _ _ _ hs;refine TL (λn a w=>∃s μ φ,Rel E.P E.aQ E.fn.ntmps w0 μ φ (aag T s) (Pt T s) a w/\bT (λs rec=>gK E b (aag T s) (Pt T s) (Ex.Xl (λf m=>SY E.P T f m λf m=>enc T f m rec) k)) n s=U r) ?_ n0 a w ⟨s,μ,φ,hR.dec s1 s2 s3 s4,hs⟩;rintro n a w ⟨s,μ,φ,hR,hs⟩;cases n with
   |zero=>simp[bT]at hs
   |succ n=>
    refine⟨n,rfl,?_⟩;simp only[bT]at hs;refine ih hE hY KU hs hR λe f' m' μ' φ' a' w' hk mo=>?_;cases e with
    |normal=>have⟨f',m',μ',φ',hk,mo⟩:=XU hk mo;have⟨s',hs',t1,t2,t3,t4⟩:=ahP hk;exact⟨s',μ',φ',mo.dec t1 t2 t3 t4,hs'⟩
    |exit j=>exact hQ (.exit j) _ _ _ _ _ _ hk mo
    |ret=>exact hQ .ret _ _ _ _ _ _ hk mo
  .refine TL (λn a w=>∃f m μ φ,Rel E.P E.aQ E.fn.ntmps w0 μ φ f m a w/\Xj (λf m rec=>gK E b f m (Ex.Xl rec k)) n f m=U r) ?_ E.u a w ⟨f,m,μ,φ,hR,h⟩;rintro n a w ⟨f,m,μ,φ,hR,hs⟩;cases n with
   |zero=>simp[Xj]at hs
   |succ n=>
    refine⟨n,rfl,?_⟩;simp only[Xj]at hs;refine ih hE hY KU hs hR λe f' m' μ' φ' a' w' hk mo=>?_;cases e with
    |normal=>exact⟨f',m',μ',φ',mo,hk⟩
    |exit j=>exact hQ (.exit j) _ _ _ _ _ _ hk mo
    |ret=>exact hQ .ret _ _ _ _ _ _ hk mo
 |exit id=>intro E w0 rd hE hY KU R f m k r h μ φ a w Q hR hQ;simp only[gK]at h;exact wpIn_exit (hQ (.exit id) _ _ _ _ _ _ h hR)
 |label l=>intro E w0 rd hE hY KU R f m k r h μ φ a w Q hR hQ;simp only[gK]at h;exact wpIn_label (hQ .normal _ _ _ _ _ _ h hR)
 |ret=>intro E w0 rd hE hY KU R f m k r h μ φ a w Q hR hQ;simp only[gK]at h;exact wpIn_ret (hQ .ret _ _ _ _ _ _ h hR)
 |scope b ih=>intro E w0 rd hE hY KU R f m k r h μ φ a w Q hR hQ;simp only[gK]at h;exact aeZ (ih hE hY KU h hR λe f' m' μ' φ' a' w' hk mo=>by cases e<;>exact hQ _ _ _ _ _ _ _ hk mo)
 |rangeFunc g ps as b ihA ihB=>exact Vn ihA ihB
 |_=>intro E w0 rd hE hY KU R f m k r h;simp[gK]at h
def Obj.aof:Obj->Bool
 |.cells .. =>Y
 |.map .. =>Y
 |_=>J
def RoC(μ μ':Ro):Prop:=∀b o,μ b=U o->Obj.aof o=Y->μ' b=U o
def RoC.trans{a b c:Ro}(h:RoC a b)(k:RoC b c):RoC a c:=λx o hx ho=>k x o (h x o hx ho) ho
section
variable {P:Program} {G:Nat->Option (List PV)} {w0:bI} {μ μ':Ro} {φ:Nat->aT} {m:Mem} {w w':World}
variable{x:Value}
def Qw(h:RoC μ μ'){b o:Nat}(hx:cellAt μ b o=U x):cellAt μ' b o=U x:=by
 unfold cellAt at*;split at hx
 next c t fz hb=>rw[h _ _ hb rfl];omega
 .cases hx
def aH.off(h:RoC μ μ'){p:PV}(hp:aH P μ p x):aH P μ' p x:=by
 induction hp with
 |int h=>exact .int h
 |bool=>exact .bool
 |str h=>exact .str h
 |agg h1 _ h3 ih=>exact .agg h1 ih h3
 |b8 h1 _ ih=>exact .b8 h1 ih
 |nL=>exact .nL
 |rp X h1 _ h3 ih=>exact .rp X (λi p hi=>Qw h (h1 i p hi)) ih h3
 |pj=>exact .pj
 |WW h=>exact .WW h
 |rs X h1 h2 h3 h4 _ h6 ih=>exact .rs X h1 h2 h3 (λi e j p hi hj=>Qw h (h4 i e j p hi hj)) ih h6
 |sr=>exact .sr
 |rm h1 h2 h3 h4 h5 _ _ ih1 ih2=>exact .rm (h _ _ h1 rfl) h2 h3 h4 h5 ih1 ih2
 |IU=>exact .IU
 |fn h1 _ ih=>exact .fn h1 ih
 |ag0=>exact .ag0
 |akE=>exact .akE
 |bad=>exact .bad
def I8.off(h:RoC μ μ'){g:Nat}{cs:List PV}(hv:I8 P μ g cs):I8 P μ' g cs:=⟨hv.rep.off h,let⟨c,T,z,h1,h2⟩:=hv.size;⟨c,T,z,h _ _ h1 rfl,h2⟩⟩
def az.off(h:RoC μ μ'){v:V}{x:Value}(hv:az P μ φ v x):az P μ' φ v x:=by
 induction hv with
 |pv hp=>exact .pv (hp.off h)
 |il=>exact .il
 |op hg=>exact .op hg
 |oe hg=>exact .oe hg
 |BG hg=>exact .BG hg
 |os hg=>exact .os hg
 |zR hg=>exact .zR hg
 |iJ hg hl ha hc hc'=>exact .iJ hg hl ha hc hc'
 |UU hg=>exact .UU hg
 |Gm hg=>exact .Gm hg
 |KB hg hs=>exact .KB hg hs
 |om hg=>exact .om hg
 |yl hg=>exact .yl hg
 |it hg=>exact .it hg
 |fn h1 _ ih=>exact .fn h1 ih
 |agg h1 _ h3 ih=>exact .agg h1 ih h3
 |b8 h1 _ ih=>exact .b8 h1 ih
 |top=>exact .top
def ba.off(h:RoC μ μ'){id sz:Nat}{et:TypeId}{es:List PV}(ha:ba P μ φ w id sz et es)(hw:∀g,(φ id).g=U g->w'.heap[g]?=w.heap[g]?):ba P μ' φ w' id sz et es:=by
 obtain⟨a1,a2,a3,a4,a5,a6,a7⟩:=ha;refine⟨a1,a2,a3,a4,a5,a6,?_⟩;cases hg:(φ id).g with
 |none=>rw[hg]at a7;omega
 |some g=>rw[hg]at a7;obtain⟨c,T,c1,c2,c3,c4,c5⟩:=a7;exact⟨c,T,by rw[hw g hg];omega,c2,c3,λi e j p x h1 h2 h3=>(c4 i e j p x h1 h2 h3).off h,c5⟩
def gv.off(hh:RoC μ μ'){R:NH}{s:Nat}{rs:List PV}{x:Value}(h:gv P μ R w s rs x)(hw:∀g,R.g=U g->w'.heap[g]?=w.heap[g]?):gv P μ' R w' s rs x:=
 let⟨⟨et,hA⟩,hV⟩:=h
 ⟨⟨et,hA.off hh hw⟩,hV.off hh⟩
def fK.off(hh:RoC μ μ'){R:NH}{p:PV}{x:Value}(h:fK P μ R w p x)(hw:p.isRow=Y->∀g,R.g=U g->w'.heap[g]?=w.heap[g]?):fK P μ' R w' p x:=by
 unfold fK at*;split at h
 .exact gv.off hh h (hw rfl)
 .exact aH.off hh h
def bw.off(hh:RoC μ μ'){id sz:Nat}{et:TypeId}{es:List PV}(h:bw P μ φ w id sz et es)(hw:∀g,(cS.nest sz et es).owns (φ id) g->w'.heap[g]?=w.heap[g]?):bw P μ' φ w' id sz et es:=by
 obtain⟨a1,a2,a3,a4,a5,a6,a7⟩:=h;refine⟨a1,a2,a3,a4,a5,a6,?_⟩;cases hg:(φ id).g with
 |none=>rw[hg]at a7;omega
 |some g=>rw[hg]at a7;obtain⟨c,T,c1,c2,c3,c4,c5⟩:=a7;exact⟨c,T,by rw[hw g (.inl hg)];omega,c2,c3,λi e j p x h1 h2 h3=>(c4 i e j p x h1 h2 h3).off hh λhr g' dH=>hw g' (.inr ⟨i,j,by rw[eH h1 h2];omega,dH⟩),c5⟩
def gv.adb{R:NH}{s g:Nat}{rs:List PV}(h:gv P μ R w s rs x)(hg:R.g=U g):∃c T z,w.heap[g]?=U (.cells c T z):=by obtain⟨⟨et,_,_,_,_,_,_,a7⟩,_⟩:=h;have dH:R.up.g=U g:=hg;grind
def jF.ahU{id g i off:Nat}{b:cS}(h:jF P μ φ w id b)(hr:b.rowAt i off=Y)(hg:((φ id).row i off).g=U g):∃c T z,w.heap[g]?=U (.cells c T z):=by
 rcases nQ hr with⟨sz,et,es,e,s,rs,rfl,he,hp⟩|⟨kt,e0,es,k,s,rs,rfl,rfl,he⟩
 .have hN:bw P μ φ w id sz et es:=h;have hgg:∃g0,(φ id).g=U g0:=by
   cases hq:(φ id).g with
   |some g0=>simp
   |none=>have a7:=hN.2.2.2.2.2.2;simp_all
  obtain⟨g0,hg0⟩:=hgg;have⟨c,_,x,_,_,c3,_⟩:=hN.cell hg0 he hp;exact gv.adb (show gv P μ _ w s rs x from c3) hg
 .obtain⟨g0,en,clock,kk,hg0,hh,hs,hk,hc,Ik,hv⟩:=h;have hi:i<en.size:=ao
  have h3:=(hv i k _ en[i] he (aq5 hi)).2;exact gv.adb (P:=P) (μ:=μ) (R:=(φ id).row i 0) (s:=s) (rs:=rs) (x:=en[i].val) ⟨⟨_,h3.1⟩,h3.2⟩ hg
def jF.off(h:RoC μ μ')(xN:∀b o,μ b=U o->w.heap[b]?=U o){id:Nat}{b:cS}(hb:jF P μ φ w id b)(hw:∀g,b.owns (φ id) g->w'.heap[g]?=w.heap[g]?):jF P μ' φ w' id b:=by
 cases b with
 |nest sz et es=>exact bw.off h hb hw
 |gY kt e0 es=>
  obtain⟨g,en,clock,kk,hg,hh,hs,hk,hc,Ik,hv⟩:=hb;refine⟨g,en,clock,kk,hg,by rw[hw g (.inl hg)];omega,hs,hk,hc,Ik,λi k v e h1 h2=>⟨(hv i k v e h1 h2).1.off h,?_⟩⟩;have h3:=(hv i k v e h1 h2).2;split at h3
  .exact⟨h3.1.off h λg' dH=>hw g' (.inr ⟨i,0,by rw[nP h1];rfl,dH⟩),h3.2.off h⟩
  .exact h3.off h
 |box cs=>obtain⟨g,c,T,hg,hh,hs,hv,h1,Sk⟩:=hb;exact⟨g,c,T,hg,by rw[hw g (.inl hg)];omega,hs,λi v x hi hx=>(hv i v x hi hx).off h,h1,Sk⟩
 |arr sz et es=>exact ba.off h hb λg hg=>hw g (.inl hg)
 |xJ sz et es=>refine⟨ba.off h hb.1 λg hg=>hw g (.inl hg),λg hg=>?_⟩;have⟨o,ho⟩:=aym.1 (hb.2 g hg);have⟨_,_,_,_,_,_,a7⟩:=hb.1;rw[hg]at a7;obtain⟨c,_,c1,_⟩:=a7;have:=xN g o ho;rw[c1]at this;cases this;rw[h _ _ ho rfl];rfl
 |map kt es=>obtain⟨g,en,clock,kk,hg,hh,hs,hk,hc,Ik,hv⟩:=hb;exact⟨g,en,clock,kk,hg,by rw[hw g (.inl hg)];omega,hs,hk,hc,Ik,λi k v e h1 h2=>⟨(hv i k v e h1 h2).1.off h,(hv i k v e h1 h2).2.off h⟩⟩
 |iter t es cur=>obtain⟨g,mg,en,clock,seen,hg,hh,WY,Ik,Sk,hv,hcu⟩:=hb;exact⟨g,mg,en,clock,seen,hg,by rw[hw g (.inl hg)];omega,h _ _ WY rfl,Ik,Sk,λi k v e h1 h2=>⟨(hv i k v e h1 h2).1.off h,(hv i k v e h1 h2).2.off h⟩,λk v hc=>let⟨i,e,h1,h2,h3,h4⟩:=hcu k v hc;⟨i,e,h1,h2,h3.off h,h4.off h⟩⟩
 |loop st=>obtain⟨g,rc,hg,hh⟩:=hb;exact⟨g,rc,hg,by rw[hw g (.inl hg)];omega⟩
def K9(μ:Ro)(D:Nat):Ro:=λb=>if b=D then Z else μ b
def ade{D:Nat}(hD:μ D=U (.deferred (U []))):RoC μ (K9 μ D):=by intro b o hb ho;unfold K9;rw[IT λe=>by subst e;rw[hD]at hb;cases hb;cases ho];omega
def aR.shut(hM:aR P G w0 μ φ m w){D:Nat}(hB:w0.heap.size<=D)(hk:w0.eF D=Z)(hD:μ D=U (.deferred (U []))):aR P G w0 (K9 μ D) φ m (w.putObj D (.deferred Z)):=by
 have hc:=ade hD;have hh:=hM.ro _ _ hD;have IX:∀k,k≠D->(w.putObj D (.deferred Z)).heap[k]?=w.heap[k]?:=λk hk=>World.putObj_heap_other hk;have cO:∀id b g,m id=U b->b.owns (φ id) g->g≠D:=λid b g hm hg e=>by
  subst e;have hR:=hM.eE id b hm;rcases hg with hg|⟨i,off,hr,hg⟩
  rotate_left
  .obtain⟨c,T,z,h2⟩:=hR.ahU hr hg;rw[hh]at h2;cases h2
  cases b with
  |nest sz et es=>obtain⟨_,_,_,_,_,_,a7⟩:=hR;simp_all
  |gY kt e0 es=>obtain⟨g',en,clock,kk,dH,h2,_⟩:=hR;simp_all
  |box cs=>obtain⟨g',c,T,dH,h2,_⟩:=hR;simp_all
  |arr sz et es=>obtain⟨_,_,_,_,_,_,a7⟩:=hR;simp_all
  |xJ sz et es=>obtain⟨⟨_,_,_,_,_,_,a7⟩,_⟩:=hR;simp_all
  |map kt es=>obtain⟨g',en,clock,kk,dH,h2,_⟩:=hR;simp_all
  |loop st=>obtain⟨g',rc,dH,h2⟩:=hR;simp_all
  |iter t es cur=>obtain⟨g',mg,en,clock,seen,dH,h2,_⟩:=hR;simp_all
 refine⟨hM.below.trans ((ou.putObj w D _).mono hB),λb o hb=>?_,λg cs hg=>(hM.aQ g cs hg).off hc,λid b hm=>(hM.eE id b hm).off hc hM.ro λg hg=>IX g (cO id b g hm hg),λid b g hm hg=>?_,hM.inj,hM.apart,hM.hU,λb o hb bX=>?_,λb o hb=>?_,λid st hm=>?_,λk o h=>(by
  have⟨h1,h2,h3,h4⟩:=hM.hid k o h;have hkD:k≠D:=λe=>by rw[e,hD]at h3;cases h3
  exact⟨by rw[IX k hkD];exact h1,h2,by unfold K9;rw[IT hkD];exact h3,h4⟩)⟩
 .unfold K9 at hb;split at hb
  .cases hb
  next e=>rw[IX b e];exact hM.ro b o hb
 .obtain⟨h1,h2⟩:=hM.own id b g hm hg;refine⟨h1,λag8=>?_⟩;unfold K9;simp_all
 .unfold K9 at hb;split at hb
  .omega
  .exact hM.base b o hb bX
 .unfold K9;rw[IT λe=>av];exact hM.eF b o hb
 .obtain⟨g,rc,h1,h2,h3⟩:=hM.L2 id st hm;grind
end
section
variable {E:Env} {w0:bI}
def La{R:Ending->World->Prop}{f:Fr}{m:Mem}{φ:Nat->aT}{fn:Func}{tmps:Array Value}:∀(Ds:List Nat){μ:Ro}{w:World},Ds.Nodup->(∀D∈Ds,w0.heap.size<=D/\w0.eF D=Z/\μ D=U (.deferred (U [])))->Rel E.P E.aQ E.fn.ntmps w0 μ φ f m {tmps,defers:=[]} w->(∀μ' w',Rel E.P E.aQ E.fn.ntmps w0 μ' φ f m {tmps,defers:=[]} w'->∃v,(results fn tmps).run E.P w'=.ok v w'/\R (.returned v) w')->LeavesInM (FR Z) 0 E.P fn tmps R (Ds.map λD=>{target:=.collected D,args:= #[]}) .returning w
 |[],μ,w,_,_,hR,JS=>JS μ w hR
 |D::Ds,μ,w,hn,hD,hR,JS=>by have⟨h1,h2,h3⟩:=hD D ae;have⟨n1,n2⟩:=azA.1 hn;have hM:=hR.toaR.shut h1 h2 h3;refine⟨ae,.inl ⟨D,_,rfl,run_takeDeferred (hR.ro _ _ h3),?_⟩⟩;refine La Ds n2 (λD' hd'=>?_) {toaR:=hM,size:=hR.size,defers:=.nil _ _ _,ow:=hR.ow,fr:=λt=>(hR.fr t).off (ade h3),live:=hR.live} JS;obtain⟨a1,a2,a3⟩:=hD D' (by simp[hd']);refine⟨a1,a2,?_⟩;unfold K9;grind
def Cq(hE:mn E)(hY:yZ E.P E.aQ E.fn.ntmps E.yl w0)(hko:∀b o,w0.eF b=U o->w0.ow b=U o){g:FuncId}{c:Code}(hf:E.P.funcs[g]?=U E.fn)(hb:E.fn.body=U c){xs:Array Value}{R:Ending->World->Prop}{S:Type}{f:Fr}{m:Mem}{k:Ex->Fr->Mem->Option S}{r:S}(h:gK E c f m k=U r){μ:Ro}{φ:Nat->aT}{w:World}(hR:Rel E.P E.aQ E.fn.ntmps w0 μ φ f m {tmps:=xs++Array.replicate (E.fn.ntmps-xs.size) undef,defers:=[]} w)(JS:∀e f' m' μ' φ' tmps w',k e f' m'=U r->Rel E.P E.aQ E.fn.ntmps w0 μ' φ' f' m' {tmps,defers:=[]} w'->(∀id,e≠.exit id)/\∃v,(results E.fn tmps).run E.P w'=.ok v w'/\R (.returned v) w'):Calls E.P g xs w R:=by
 refine(callsIn_wide (n:=0)).1 (callsIn_of_wp_marks (F:=FR Z) hf hb trivial ?_);refine ahT c hE hY (λ_=>rfl) h hR λe f' m' μ' φ' a' w' hk mo=>?_;have⟨Ds,e1,e2,e3⟩:=mo.defers;have Mq:Rel E.P E.aQ E.fn.ntmps w0 μ' φ' f' m' {tmps:=a'.tmps,defers:=[]} w':={toaR:=mo.toaR,size:=mo.size,defers:=.nil _ _ _,ow:=mo.ow,fr:=mo.fr,live:=mo.live};have key:(∀id,e≠.exit id)->LeavesInM (FR Z) 0 E.P E.fn a'.tmps R a'.defers .returning w':=λ_=>by
  rw[e1];refine La Ds e2 (λD hd=>?_) Mq λμ2 w2 hR3=>(JS e f' m' μ2 φ' a'.tmps w2 hk hR3).2;have⟨a1,a2,a3⟩:=e3 D hd;refine⟨a1,?_,a3⟩;cases hq:w0.eF D with
  |none=>rfl
  |some o=>simp_all
 have cO:=(JS e f' m' μ' φ' a'.tmps w' hk Mq).1;cases e with
 |normal=>exact key cO
 |ret=>exact key cO
 |exit id=>simp_all
end
end Go.Ab
