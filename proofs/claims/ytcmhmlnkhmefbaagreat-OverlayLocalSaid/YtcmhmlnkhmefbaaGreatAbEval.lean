import Derived.Test.YtcmhmlnkhmefbaaGreatAbDefs
import Derived.Deep.Quiet
set_option linter.unusedVariables false
namespace Go.Ab
inductive FS where
 |raw
 |fn (g:FuncId) (lY:List FS)
 |ptr (cells:List FS)
mutual
def TH:FS→PV→Option (List PV)
 |.raw,p=>some [p]
 |.fn g cs,.fn g' qs=>if g'=g then F6 cs qs else none
 |.ptr cs,.rp qs=>F6 cs qs
 |_,_=>none
def F6:List FS→List PV→Option (List PV)
 |[],[]=>some []
 |s::ss,p::ps=>(TH s p).bind fun a=>(F6 ss ps).bind fun b=>some (a++b)
 |_,_=>none
end
mutual
def El:FS→List PV→PV×List PV
 |.raw,[]=>(.bad,[])
 |.raw,p::r=>(p,r)
 |.fn g cs,l=>(.fn g (y5 cs l).1,(y5 cs l).2)
 |.ptr cs,l=>(.rp (y5 cs l).1,(y5 cs l).2)
def y5:List FS→List PV→List PV×List PV
 |[],l=>([],l)
 |s::ss,l=>((El s l).1::(y5 ss (El s l).2).1,(y5 ss (El s l).2).2)
end
mutual
def FS.n:FS→Nat
 |.raw=>1
 |.fn _ cs=>Zz cs
 |.ptr cs=>Zz cs
def Zz:List FS→Nat
 |[]=>0
 |s::ss=>s.n+Zz ss
end
inductive Sh where
 |raw
 |int (q:IntKind)
 |bool
 |str
 |rs (sz:Nat)
 |rp (n:Nat)
 |fs (s:FS)
 |row (id off:Nat)
 |own (v:V)
inductive Qi where
 |box (cs:List Sh)
 |arr (sz:Nat) (et:TypeId)
 |nP (sz:Nat) (et:TypeId)
 |map (kt:TypeId)
 |nest (sz:Nat) (et:TypeId)
 |eX (kt e:TypeId)
 |loop
 |busy
 |iter (t:TypeId)
structure fi where
 aA:List (Nat×Sh)
 bR:List (Nat×Qi)
 fz:List (Nat×Nat):=[]
 bz:List (Nat×Nat×Nat):=[]
 bo:List (Nat×Nat×Nat×TypeId):=[]
 nz:List Nat:=[]
 ct:List (Nat×Nat):=[]
structure bC where
 run:{S R:Type}→(S→(S→Option R)→Option R)→S→Option R
 room:Nat→Bool
 rQ:∀n,room n=true→(n:Int)≤IntKind.i64.max
def cG{S R:Type}(body:S→(S→Option R)→Option R):Nat→S→Option R
 |0,_=>none
 |n+1,s=>body s (cG body n)
abbrev YL:=(R:Type)→Nat→Nat→Nat→List V→Fr→Mem→(V→Fr→Mem→Option R)→Option R
def xV:YL:=fun _ _ _ _ _ _ _ _=>none
structure Env where
 P:Program
 ctx:FuncId→Option (List PV→Option PV)
 aI:Nat→Option (List PV)
 fid:FuncId
 fn:Func
 lp:bC
 hint:Nat→Nat→List fi
 u:Nat
 own:FuncId→Option (List PV→Option PV)
 inl:(R:Type)→FuncId→Nat→List V→Fr→Mem→(V→Fr→Mem→Option R)→Option R
 WC:(R:Type)→FuncId→Nat→YL→List V→Fr→Mem→(V→Fr→Mem→Option R)→Option R
 yl:YL
 WD:Bool:=false
 YY:FuncId→Option FS:=fun _=>none
 y6:Nat→Bool:=fun _=>false
section
variable {R:Type} (E:Env)
def dS(kt:TypeId)(p:PV)(a:Option R)(b:List PV→List PV→Option R):Option R:=
 match p with
 |.sR=>a
 |.rm sU ks vs=>if sU=kt then b ks vs else none
 |_=>none
def fK(t:TypeId)(p:PV)(k:PV→Option R):Option R:=
 match E.P.underlying t with
 |some (.int q)=>(asInt q p).bind fun n=>k (.int q n)
 |some .bool=>(asBool p).bind fun b=>k (.bool b)
 |some .string=>(bB p).bind fun s=>k (.str s)
 |some (.slice e)=>(ab (aT E.P e) p).bind fun es=>k (.rs (aT E.P e) es)
 |some (.struct _)=>(asAgg (aT E.P t) p).bind fun _=>k (.agg (aL (aT E.P t) p))
 |some (.array _ _)=>(asAgg (aT E.P t) p).bind fun _=>k (.agg (aL (aT E.P t) p))
 |some (.pointer _)=>match p with
  |.nD=>k p
  |.rp _=>k p
  |_=>none
 |some (.map kt _)=>dS kt p (k .sR) fun ks vs=>k (.rm kt ks vs)
 |some (.func _ _ _)=>match p with
  |.xT=>k .xT
  |.fn g cs=>k (.fn g cs)
  |_=>none
 |some (.interface _)=>(Md p).bind fun b=>k (.Tm b)
 |_=>none
def wN(t:TypeId)(v:V)(k:V→Option R):Option R:=
 match v with
 |.pv p=>fK E t p fun p=>k (.pv p)
 |.top=>none
 |v=>if(E.P.underlying t).isSome then k v else none
def y7:List TypeId→List PV→(List V→Option R)→Option R
 |[],[],k=>k []
 |t::ts,p::ps,k=>fK E t p fun q=>y7 ts ps fun vs=>k (.pv q::vs)
 |_,_,_=>none
def y8(ts:List TypeId)(r:PV)(k:V→Option R):Option R:=
 match ts with
 |[]=>(bV 0 r).bind fun _=>k (.bl [])
 |[t]=>fK E t r fun q=>k (.pv q)
 |ts=>(bV ts.length r).bind fun vs=>y7 E ts ((List.range ts.length).map fun j=>vs.getD j .bad) fun us=>k (.bl us)
def xW(fid:FuncId)(ts:List TypeId)(r:PV)(k:V→Option R):Option R:=
 match E.YY fid with
 |some s=>(TH s r).bind fun ls=>k (.pv (El s ((List.range s.n).map fun j=>ls.getD j .bad)).1)
 |none=>y8 E ts r k
def bD(f:Fr):Operand→V
 |.tmp t=>bif Nat.blt t E.fn.ntmps then f t else .top
 |.const c=>C6 c
 |.global g=>match E.aI g with|some cs=>.pv (.rp cs)|none=>.top
 |.func f=>.fn f []
def fresh(draw:Bool)(site:Nat)(b:bL)(f:Fr)(m:Mem)(k:Fr→Mem→bp→Option R):Option R:=
 match m site with
 |none=>k f (ao m site b) [(true,site)]
 |some _=>if draw||b.names site then none else k (eS site f) (ao (bE site m) site b) [(true,site)]
def od:V→Option (List V)
 |.pv (.agg cs)=>some (cs.map .pv)
 |.agg cs=>some cs
 |_=>none
def dh:Mem:=fun _=>none
def kK(op:BinOp)(t:TypeId)(a b:V)(k:PV→Option R):Option R:=
 match a,b with
 |.pv (.int q x),.pv (.int q' y)=>match op with
  |.shl=>if y<0 then none else k (.int q (q.wrap (x*2^(min y.toNat q.bits))))
  |.shr=>if y<0 then none else k (.int q (x.fdiv (2^(min y.toNat q.bits))))
  |op=>if q=q' then match op with
   |.add=>k (.int q (q.wrap (x+y)))
   |.sub=>k (.int q (q.wrap (x-y)))
   |.mul=>k (.int q (q.wrap (x*y)))
   |.quo=>if y=0 then none else k (.int q (q.wrap (x.tdiv y)))
   |.rem=>if y=0 then none else k (.int q (x.tmod y))
   |.and=>k (.int q (q.wrap (BitVec.ofInt q.bits x&&&BitVec.ofInt q.bits y).toNat))
   |.or=>k (.int q (q.wrap (BitVec.ofInt q.bits x|||BitVec.ofInt q.bits y).toNat))
   |.xor=>k (.int q (q.wrap (BitVec.ofInt q.bits x^^^BitVec.ofInt q.bits y).toNat))
   |.andNot=>k (.int q (q.wrap (BitVec.ofInt q.bits x&&& ~~~(BitVec.ofInt q.bits y)).toNat))
   |.eql=>k (.bool (x==y))
   |.neq=>k (.bool (x !=y))
   |.lss=>k (.bool (decide (x<y)))
   |.leq=>k (.bool (decide (x≤y)))
   |.gtr=>k (.bool (decide (x>y)))
   |.geq=>k (.bool (decide (x≥y)))
   |_=>none
   else none
 |.pv (.str x),.pv (.str y)=>match op with
  |.add=>if E.lp.room (x.length+y.length)=true then k (.str (x++y))else none
  |.eql=>k (.bool (x==y))
  |.neq=>k (.bool (!(x==y)))
  |.lss=>k (.bool (Op.bytesLess x y))
  |.leq=>k (.bool (Op.bytesLess x y||x==y))
  |.gtr=>k (.bool (!(Op.bytesLess x y||x==y)))
  |.geq=>k (.bool (!(Op.bytesLess x y)))
  |_=>none
 |.pv (.bool x),.pv (.bool y)=>match op,E.P.underlying t with
  |.eql,some .bool=>k (.bool (x==y))
  |.neq,some .bool=>k (.bool (!(x==y)))
  |_,_=>none
 |.pv .nD,.pv .nD=>match op,E.P.underlying t with
  |.eql,some (.pointer _)=>k (.bool true)
  |.neq,some (.pointer _)=>k (.bool false)
  |_,_=>none
 |.fn _ _,.pv .xT|.pv (.fn _ _),.pv .xT=>match op,E.P.underlying t with
  |.eql,some (.func _ _ _)=>k (.bool false)
  |.neq,some (.func _ _ _)=>k (.bool true)
  |_,_=>none
 |.pv (.rp _),.pv .nD|.op _ _,.pv .nD|.oe _ _ _,.pv .nD=>match op,E.P.underlying t with
  |.eql,some (.pointer _)=>k (.bool false)
  |.neq,some (.pointer _)=>k (.bool true)
  |_,_=>none
 |a,b=>if aF E.P t then match pM E.P t,od a,od b with
  |some ks,some as,some bs=>match oc (jq dh 1) as,oc (jq dh 1) bs with
   |some as,some bs=>if gU ks as=true∧gU ks bs=true then match op with
    |.eql=>k (.bool (cC as bs))
    |.neq=>k (.bool (!(cC as bs)))
    |_=>none
    else none
   |_,_=>none
  |_,_,_=>none
  else none
def AQ:Operand→Bool
 |.const .nilIface=>true
 |_=>false
def Qj(op:BinOp)(t:TypeId)(a:V)(k:PV→Option R):Option R:=
 match a with
 |.pv (.Tm b)=>match op,E.P.underlying t with
  |.eql,some (.interface _)=>k (.bool (!b))
  |.neq,some (.interface _)=>k (.bool b)
  |_,_=>none
 |_=>none
def F7(op:BinOp)(t:TypeId)(y:Operand)(a b:V)(k:PV→Option R):Option R:=bif AQ y then Qj E op t a k else kK E op t a b k
noncomputable def agree(a b:Option R):Option R:= @ite _ (a=b) (Classical.propDecidable _) a none
noncomputable def IH(op:BinOp)(t:TypeId)(es:List PV)(k:Bool→Option R):Option R:=
 match op,E.P.underlying t with
 |.eql,some (.slice _)=>if es.isEmpty=true then agree (k true) (k false)else k false
 |.neq,some (.slice _)=>if es.isEmpty=true then agree (k false) (k true)else k true
 |_,_=>none
def xun(op:UnOp)(a:V)(k:PV→Option R):Option R:=
 match op,a with
 |.not,.pv (.bool b)=>k (.bool !b)
 |.neg,.pv (.int q n)=>k (.int q (q.wrap (0-n)))
 |.xor,.pv (.int q n)=>k (.int q (q.wrap (BitVec.ofInt q.bits (if q.signed then-1 else q.max)^^^BitVec.ofInt q.bits n).toNat))
 |_,_=>none
def AR(s d:TypeId)(a:V)(k:PV→Option R):Option R:=
 match E.P.underlying s,E.P.underlying d,a with
 |some (.int q),some (.int q'),.pv (.int q'' n)=>if q''=q then(if q'=q then k (.int q n)else k (.int q' (q'.wrap n)))else none
 |some .string,some .string,.pv (.str s)=>k (.str s)
 |_,_,_=>none
def qj(s:Nat)(t:TypeId)(e:PV)(off:Nat)(k:V→Option R):Option R:=
 if aF E.P t then(if off+aT E.P t≤s then k (.pv (.agg (((aL s e).drop off).take (aT E.P t))))else none)
 else match(aL s e)[off]? with
  |some p=>fK E t p fun p=>k (.pv p)
  |none=>none
def pO:V→Option PV
 |.pv p=>some p
 |_=>none
def og(own:Bool)(t:TypeId)(a:V)(m:Mem)(k:V→bp→Option R):Option R:=
 match a with
 |.pv (.rp cs)=>
  if aF E.P t then(if aT E.P t≤cs.length then k (.pv (.agg (cs.take (aT E.P t)))) []else none)
  else(cs.head?).bind fun p=>fK E t p fun p=>k (.pv p) []
 |.op id off=>match m id with
  |some (.box cs)=>
   if aF E.P t then(if off+aT E.P t≤cs.length then k (.agg ((cs.drop off).take (aT E.P t))) [(false,id)]else none)
   else match oc pO cs with
    |some ps=>(ps[off]?).bind fun p=>fK E t p fun p=>k (.pv p) [(false,id)]
    |none=>match cs[off]? with
     |some v=>wN E t v fun v=>k v [(false,id)]
     |none=>none
  |_=>none
 |.oe id i off=>match m id with
  |some (.arr s _ es)=>(es[i]?).bind fun e=>qj E s t e off fun v=>k v [(false,id)]
  |some (.nP s _ es)=>(es[i]?).bind fun e=>qj E s t e off fun v=>k v [(false,id)]
  |some (.nest _ _ es)=>if aF E.P t then none else(es[i]?).bind fun e=>
   if own then(match E.P.underlying t with
    |some (.slice et)=>(aY (aT E.P et) (cell e off)).bind fun _=>k (.tc id i off) [(false,id)]
    |_=>none)
   else fK E t (cell e off) fun p=>k (.pv p) [(false,id)]
  |_=>none
 |.wL id i off s j off2=>match m id with
  |some (.nest _ _ es)=>(es[i]?).bind fun e=>(aY s (cell e off)).bind fun rs=>(rs[j]?).bind fun q=>qj E s t q off2 fun v=>k v [(false,id)]
  |_=>none
 |_=>none
def over{T:Type}:List T→List T→List T
 |[],cs=>cs
 |x::new,[]=>x::over new []
 |x::new,_::cs=>x::over new cs
def bT{T:Type}:List T→Nat→List T→List T
 |cs,0,new=>over new cs
 |[],_+1,new=>new
 |c::cs,off+1,new=>c::bT cs off new
theorem Em{T:Type}:∀(new cs:List T),over new cs=new++cs.drop new.length
 |[],cs=>by simp[over]
 |x::new,[]=>by simp[over,Em new []]
 |x::new,_::cs=>by simp[over,Em new cs]
theorem dF{T:Type}:∀(cs:List T)(off:Nat)(new:List T),bT cs off new=cs.take off++new++cs.drop (off+new.length)
 |cs,0,new=>by cases cs<;>simp[bT,Em]
 |[],_+1,new=>by simp[bT]
 |c::cs,off+1,new=>by rw[bT,dF cs off new,show off+1+new.length=(off+new.length)+1 by omega];simp
def td(draw:Bool)(m:Mem)(n:Nat)(agg:Bool)(v:V):Option (PV×Mem):=if draw then(match jb dh n agg v with|some (p,_)=>some (p,m)|none=>none)else jb m n agg v
def setRow(s:Nat)(e:PV)(off:Nat)(p:PV):PV:=if s=1 then p else .agg ((aL s e).set off p)
def setCells(s:Nat)(e:PV)(off n:Nat)(p:PV):PV:=if off=0∧n=s then p else .agg (bT (aL s e) off p.cells)
def rR(draw:Bool)(t:TypeId)(a x:V)(m:Mem)(k:Mem→bp→Option R):Option R:=
 match a with
 |.op id off=>match m id with
  |some (.box cs)=>match toCells (aT E.P t) x with
   |some new=>if off+aT E.P t≤cs.length∧0<aT E.P t then k (ao m id (.box (bT cs off new))) [(true,id)]else none
   |none=>none
  |_=>none
 |.oe id i off=>match td draw m (aT E.P t) (aF E.P t) x with
  |some (p,m)=>match m id with
   |some (.arr s et es)=>(es[i]?).bind fun e=>
    if off=0∧aT E.P t=s∧0<s then k (ao m id (.arr s et (es.set i p))) [(true,id)]
    else if off+aT E.P t≤s∧0<aT E.P t∧1<s then k (ao m id (.arr s et (es.set i (.agg (bT (aL s e) off p.cells))))) [(true,id)]
    else none
   |some (.nest s et es)=>(es[i]?).bind fun e=>if off+aT E.P t≤s∧0<aT E.P t∧1<s then k (ao m id (.nest s et (es.set i (.agg (bT (aL s e) off p.cells))))) [(true,id)]else none
   |_=>none
  |none=>none
 |.wL id i off s j off2=>match jb dh (aT E.P t) (aF E.P t) x with
  |some (p,_)=>match m id with
   |some (.nest s0 et es)=>(es[i]?).bind fun e=>(aY s (cell e off)).bind fun rs=>(rs[j]?).bind fun q=>
    if off2+aT E.P t≤s∧0<aT E.P t∧off<s0 then k (ao m id (.nest s0 et (es.set i (setRow s0 e off (.fQ s (rs.set j (setCells s q off2 (aT E.P t) p))))))) [(true,id)]
    else none
   |_=>none
  |none=>none
 |_=>none
def Ad(m:Mem)(x:V)(k:Nat→bp→Option R):Option R:=
 match x with
 |.pv (.rs _ es)=>k es.length []
 |.bk=>k 0 []
 |.fj id _ len=>match m id with
  |some (.arr _ _ _)=>k len [(false,id)]
  |some (.nP _ _ _)=>k len [(false,id)]
  |_=>none
 |.os id=>match m id with
  |some (.arr _ _ es)=>k es.length [(false,id)]
  |some (.nP _ _ es)=>k es.length [(false,id)]
  |some (.nest _ _ es)=>k es.length [(false,id)]
  |some (.box cs)=>if cs.length≤maxLen then k cs.length [(false,id)]else none
  |_=>none
 |_=>none
def NQ(sz:Nat)(m:Mem)(x:V)(k:Nat→bp→Option R):Option R:=
 match x with
 |.tc id i off=>match m id with
  |some (.nest _ _ es)=>(es[i]?).bind fun e=>(aY sz (cell e off)).bind fun rs=>k rs.length [(false,id)]
  |_=>none
 |x=>Ad m x k
def NR(m:Mem)(x:V)(k:Nat→bp→Option R):Option R:=
 match x with
 |.om id=>match m id with
  |some (.map _ es)=>if es.length≤maxLen then k es.length [(false,id)]else none
  |_=>none
 |.pv .sR=>k 0 []
 |_=>none
def F8(t:TypeId)(x:V)(m:Mem)(k:V→bp→Option R):Option R:=
 match E.P.underlying t with
 |some (.array n _)=>if n≤maxLen then k (.pv (.int .i64 n)) []else none
 |some .string=>match x with
  |.pv (.str s)=>k (.pv (.int .i64 s.length)) []
  |_=>none
 |some (.slice e)=>NQ (aT E.P e) m x fun n ft=>k (.pv (.int .i64 n)) ft
 |some (.map _ _)=>NR m x fun n ft=>k (.pv (.int .i64 n)) ft
 |_=>none
def eI(m:Mem)(sz:Nat):V→Option (List PV×bp)
 |.pv (.rs s es)=>if s=sz then some (es,[])else match es with|[]=>some ([],[])|_=>none
 |.bk=>some ([],[])
 |.os id=>match m id with
  |some (.arr s' _ es)=>if s'=sz then some (es,[(false,id)])else none
  |some (.nP s' _ es)=>if s'=sz then some (es,[(false,id)])else none
  |_=>none
 |.fj id lo len=>match m id with
  |some (.arr s' _ es)=>if s'=sz then some ((es.drop lo).take len,[(false,id)])else none
  |some (.nP s' _ es)=>if s'=sz then some ((es.drop lo).take len,[(false,id)])else none
  |_=>none
 |.tc id i off=>match m id with
  |some (.nest _ _ es)=>(es[i]?).bind fun e=>(aY sz (cell e off)).bind fun rs=>some (rs,[(false,id)])
  |_=>none
 |_=>none
def En(m:Mem)(sz:Nat)(x:V)(k:List PV→bp→Option R):Option R:=
 match x with
 |.tc id i off=>match m id with
  |some (.nest _ _ es)=>(es[i]?).bind fun e=>(aY sz (cell e off)).bind fun rs=>k rs [(false,id)]
  |_=>none
 |x=>match eI m sz x with
  |some (es,ft)=>k es ft
  |none=>none
def xX:List PV→Option Bytes
 |[]=>some []
 |.int .u8 n::r=>(xX r).map fun b=>UInt8.ofNat n.toNat::b
 |_=>none
def xY(s d:TypeId)(a:V)(m:Mem)(k:PV→bp→Option R):Option R:=
 match E.P.underlying s,E.P.underlying d with
 |some (.slice e),some .string=>match E.P.underlying e,eI m 1 a with
  |some (.int .u8),some (es,ft)=>(xX es).bind fun b=>k (.str b) ft
  |_,_=>none
 |_,_=>AR E s d a fun p=>k p []
def ag(i:Int)(n:Nat):Prop:=0≤i∧i<(n:Int)
instance (i:Int) (n:Nat):Decidable (ag i n):=inferInstanceAs (Decidable (_∧_))
def dz(t:TypeId)(x ix:V)(m:Mem)(k:V→bp→Option R):Option R:=
 match ix with
 |.pv (.int _ i)=>match E.P.underlying t,x with
  |some (.slice e),.pv (.rs s es)=>if s=aT E.P e∧0<s then(ba es i).bind fun p=>k (.pv (.rp (aL s p))) []else none
  |some (.slice e),.os id=>match m id with
   |some (.arr s _ es)=>if s=aT E.P e∧0<s then(if ag i es.length then k (.oe id i.toNat 0) [(false,id)]else none)else none
   |some (.nP s _ es)=>if s=aT E.P e∧0<s then(if ag i es.length then k (.oe id i.toNat 0) [(false,id)]else none)else none
   |some (.nest s _ es)=>if s=aT E.P e∧0<s then(if ag i es.length then k (.oe id i.toNat 0) [(false,id)]else none)else none
   |some (.box cs)=>if aT E.P e=1∧ag i cs.length then k (.op id i.toNat) [(false,id)]else none
   |_=>none
  |some (.slice e),.tc id i0 off=>match m id with
   |some (.nest _ _ es)=>if 0<aT E.P e then(es[i0]?).bind fun e0=>(aY (aT E.P e) (cell e0 off)).bind fun rs=>if ag i rs.length then k (.wL id i0 off (aT E.P e) i.toNat 0) [(false,id)]else none else none
   |_=>none
  |some (.slice e),.fj id lo len=>match m id with
   |some (.arr s _ _)=>if s=aT E.P e∧0<s then(if ag i len then k (.oe id (lo+i.toNat) 0) [(false,id)]else none)else none
   |some (.nP s _ _)=>if s=aT E.P e∧0<s then(if ag i len then k (.oe id (lo+i.toNat) 0) [(false,id)]else none)else none
   |_=>none
  |some (.array n e),.op id off=>if ag i n∧0<aT E.P e then k (.op id (off+i.toNat*aT E.P e)) []else none
  |some (.array n e),.pv (.rp cs)=>if ag i n∧0<aT E.P e then k (.pv (.rp (cs.drop (i.toNat*aT E.P e)))) []else none
  |some (.array n e),.oe id j off=>if ag i n∧0<aT E.P e then k (.oe id j (off+i.toNat*aT E.P e)) []else none
  |_,_=>none
 |_=>none
def wO(s:TypeId)(j:Nat):Option (Nat×TypeId):=
 match E.P.underlying s with
 |some (.struct fs)=>match fs[j]? with
  |some f=>if aT E.P f.type=0 then none else some (f.offset,f.type)
  |none=>none
 |_=>none
def iN(s:TypeId)(x:V)(j:Nat)(k:V→Option R):Option R:=
 match wO E s j with
 |some (o,_)=>match x with
  |.pv (.rp cs)=>k (.pv (.rp (cs.drop o)))
  |.op id off=>k (.op id (off+o))
  |.oe id i off=>k (.oe id i (off+o))
  |.wL id i off s j off2=>k (.wL id i off s j (off2+o))
  |_=>none
 |none=>none
def AS(t:TypeId)(cs:List V)(off:Nat)(k:V→Option R):Option R:=
 if aF E.P t then(if off+aT E.P t≤cs.length then k (.agg ((cs.drop off).take (aT E.P t)))else none)
 else match cs[off]? with
  |some v=>wN E t v k
  |none=>none
def AU(s:TypeId)(x:V)(j:Nat)(k:V→Option R):Option R:=
 match wO E s j,od x with
 |some (o,t),some cs=>AS E t cs o k
 |_,_=>none
def xZ(t:TypeId)(x ix:V)(k:V→Option R):Option R:=
 match ix with
 |.pv (.int _ i)=>match E.P.underlying t,x with
  |some .string,.pv (.str s)=>(NO s i).bind fun b=>k (.pv (.int .u8 b.toNat))
  |some (.array n et),x=>match od x with
   |some cs=>if ag i n∧0<aT E.P et then AS E et cs (i.toNat*aT E.P et) k else none
   |none=>none
  |_,_=>none
 |_=>none
def iw(d:Int):Option V→Option Int
 |none=>some d
 |some (.pv (.int _ i))=>some i
 |_=>none
def rS(t:TypeId)(x:V)(lo hi mx:Option V)(m:Mem)(k:V→bp→Option R):Option R:=
 match mx with
 |some mx=>match E.P.underlying t,x with
  |some (.slice e),.os id=>match m id with
   |some (.arr s _ es)=>match lo,hi,mx with
    |none,some (.pv (.int _ h)),.pv (.int _ c)=>if 0≤h∧h≤c∧c≤(es.length:Int)∧s=aT E.P e then k (.fj id 0 h.toNat) [(false,id)]else none
    |_,_,_=>none
   |_=>none
  |_,_=>none
 |none=>match E.P.underlying t,x with
  |some .string,.pv (.str s)=>match iw 0 lo,iw s.length hi with
   |some l,some h=>if 0≤l∧l≤h∧h≤(s.length:Int)then k (.pv (.str ((s.take h.toNat).drop l.toNat))) []else none
   |_,_=>none
  |some (.slice e),.pv (.rs sz es)=>match iw 0 lo,iw es.length hi with
   |some l,some h=>if 0≤l∧l≤h∧h≤(es.length:Int)∧sz=aT E.P e∧aT E.P e≠0 then k (.pv (.rs sz ((es.take h.toNat).drop l.toNat))) []else none
   |_,_=>none
  |some (.slice e),.os id=>match m id with
   |some (.arr s _ es)=>match iw 0 lo,iw es.length hi with
    |some l,some h=>if 0≤l∧l≤h∧h≤(es.length:Int)∧s=aT E.P e then k (.fj id l.toNat (h.toNat-l.toNat)) [(false,id)]else none
    |_,_=>none
   |some (.nP s _ es)=>match iw 0 lo,iw es.length hi with
    |some l,some h=>if 0≤l∧l≤h∧h≤(es.length:Int)∧s=aT E.P e then k (.fj id l.toNat (h.toNat-l.toNat)) [(false,id)]else none
    |_,_=>none
   |_=>none
  |_,_=>none
def placesOf(fs:List Field)(j:Nat):Option (Nat×Nat):=(fs[j]?).map fun f=>(f.offset,aT E.P f.type)
def C7(place:Nat→Option (Nat×Nat))(cs:List V):List (Nat×V)→Option (List V)
 |[]=>some cs
 |(i,v)::rest=>match place i with
  |some (off,size)=>match toCells size v with
   |some new=>if off+size≤cs.length then C7 place (bT cs off new) rest else none
   |none=>none
  |none=>none
def dn(t:TypeId):Option (List V):=match zeroV E.P t with|some v=>toCells (aT E.P t) v|none=>none
def yb(t:TypeId)(parts:List (Nat×V))(k:V→Option R):Option R:=
 match dn E t,E.P.underlying t with
 |some z,some (.struct fs)=>if fs.toList.all (fun f=>(E.P.info? f.type).isSome)then match C7 (placesOf E fs.toList) z parts with
  |some cs=>k (.agg cs)
  |none=>none
  else none
 |some z,some (.array _ e)=>if 0<aT E.P e then match C7 (fun i=>some (i*aT E.P e,aT E.P e)) z parts with
  |some cs=>k (.agg cs)
  |none=>none
  else none
 |_,_=>none
def eA(m:Mem)(n:Nat)(agg:Bool):Nat→List (Nat×V)→Option (List PV×Mem)
 |_,[]=>some ([],m)
 |i,(j,v)::r=>if i=j then match jb m n agg v with
  |some (p,m)=>match eA m n agg (i+1) r with
   |some (ps,m)=>some (p::ps,m)
   |none=>none
  |none=>none
  else none
def AV:Nat→List (Nat×V)→Option (List V)
 |_,[]=>some []
 |i,(j,v)::r=>if i=j then match toCells 1 v with
  |some cs=>match AV (i+1) r with
   |some us=>some (cs++us)
   |none=>none
  |none=>none
  else none
def Me(t:TypeId):Bool:=match E.P.underlying t with|some (.func _ _ _)=>true|_=>false
def ye(t:TypeId):Option PV:=match zeroV E.P t with
 |some v=>match jq dh 2 v with
  |some p=>if aF E.P t=p.isAgg∧p.cells.length=aT E.P t∧p.plain=true then some p else none
  |none=>none
 |none=>none
def keyOf(kt:TypeId)(v:V):Option PV:=
 match pM E.P kt with
 |some ks=>
  if aF E.P kt then(match od v with
   |some cs=>match oc (jq dh 1) cs with
    |some ps=>if gU ks ps then some (.agg ps)else none
    |none=>none
   |none=>none)
  else match v with
   |.pv p=>if gU ks [p]then some p else none
   |_=>none
 |none=>none
def F9(site:Nat)(t:TypeId)(x ix:V)(m:Mem)(k:V→Mem→bp→Option R):Option R:=
 match E.P.underlying t with
 |some (.map kt et)=>match E.P.underlying et with
  |some (.slice e)=>match x,zeroV E.P et with
   |.om id,some .bk=>match m id,m site with
    |some (.eX sU e' es),none=>if sU=kt∧e'=e∧0<aT E.P e then(keyOf E kt ix).bind fun key=>(F5 (aT E.P e) key es).bind fun rs=>k (.os site) (ao (ao m id (.eX kt e (pL key es))) site (.arr (aT E.P e) e rs)) [(true,id),(true,site)]else none
    |_,_=>none
   |_,_=>none
  |_=>none
 |_=>none
def rT(t:TypeId)(x ix:V)(ok:Bool)(m:Mem)(k:V→bp→Option R):Option R:=
 match E.P.underlying t with
 |some (.map kt et)=>match ye E et with
  |some z=>match x with
   |.om id=>match m id with
    |some (.map sU es)=>if sU=kt then(keyOf E kt ix).bind fun key=>fK E et (dN key z es) fun v=>k (if ok then .bl [.pv v,.pv (.bool (sS key es))]else .pv v) [(false,id)]else none
    |_=>none
   |.pv p=>dS kt p ((keyOf E kt ix).bind fun _=>k (if ok then .bl [.pv z,.pv (.bool false)]else .pv z) []) fun ks vs=>(keyOf E kt ix).bind fun key=>fK E et (dN key z (ks.zip vs)) fun v=>k (if ok then .bl [.pv v,.pv (.bool (sS key (ks.zip vs)))]else .pv v) []
   |_=>none
  |none=>none
 |_=>none
def wP(draw:Bool)(m:Mem)(v:V):Option (PV×Mem):=if draw then(match rP dh v with|some (p,_)=>some (p,m)|none=>none)else rP m v
def l5(draw:Bool)(t:TypeId)(x key val:V)(m:Mem)(k:Mem→bp→Option R):Option R:=
 match E.P.underlying t with
 |some (.map kt _)=>match x with
  |.om id=>match wP draw m val with
   |some (v,m)=>match m id with
    |some (.map sU es)=>if sU=kt then(keyOf E kt key).bind fun key=>k (ao m id (.map kt (eR key v es))) [(true,id)]else none
    |_=>none
   |none=>none
  |_=>none
 |_=>none
def aa:Nat:=140737488355328
def jA(m:Mem):Nat→List V→Option (List PV×Option (Nat×Nat))
 |_,[]=>some ([],none)
 |j,.os id::r=>match m id with
  |some (.arr s _ es)=>match jA m (j+1) r with
   |some (ps,none)=>some (.fQ s es::ps,some (j,id))
   |_=>none
  |_=>none
 |j,v::r=>match jq dh 1 v with
  |some p=>match jA m (j+1) r with
   |some (ps,t)=>some (p::ps,t)
   |none=>none
  |none=>none
def elemOf(agg:Bool)(ps:List PV):Option PV:=if agg then some (.agg ps)else match ps with|[p]=>some p|_=>none
inductive Sp where
 |st (id i off s:Nat) (et:TypeId) (es ps:List PV) (id2:Nat)
 |app (id s:Nat) (et:TypeId) (es new:List PV) (src:Option Nat) (rd:bp)
 |lit (s:Nat) (et:TypeId) (p:PV) (id2:Nat)
 |upd (id:Nat) (kt e:TypeId) (es:List (PV×PV)) (key:PV) (s:Nat) (rs:List PV) (id2:Nat)
def vQ(site:Nat)(o:Oper)(f:Fr)(m:Mem):Option Sp:=
 match o.op with
 |.store t a x=>match bD E f a with
  |.oe id i off=>match m id with
   |some (.nest s et es)=>match toCells (aT E.P t) (bD E f x)with
    |some cs=>match jA m 0 cs with
     |some (ps,some (_,id2))=>if off+aT E.P t≤s&&0<aT E.P t&& !(Nat.beq id2 id)then some (.st id i off s et es ps id2)else none
     |_=>none
    |none=>none
   |_=>none
  |_=>none
 |.buildSlice t len parts=>match E.P.underlying t,parts.toList.map fun(i,x)=>(i,bD E f x)with
  |some (.slice e),[(0,v)]=>match toCells (aT E.P e) v with
   |some cs=>match jA m 0 cs,m site with
    |some (ps,some (_,id2)),none=>match elemOf (aF E.P e) ps with
     |some p=>if Nat.beq len 1&&0<aT E.P e&&aT E.P e≤16777216&&(dn E e).isSome then some (.lit (aT E.P e) e p id2)else none
     |none=>none
    |_,_=>none
   |none=>none
  |_,_=>none
 |.call c=>match c.callee,c.args.toList.map (bD E f),c.argTypes.toList with
  |.builtin .append,[.os id,x],[t,t']=>match E.P.underlying t,m id with
   |some (.slice e),some (.nest s et es)=>if et=e&&s=aT E.P e&&decide (t'=t)&&(dn E e).isSome&&0<aT E.P e&&0<CM E.P e then(match x with
    |.os nE=>match m nE with
     |some (.nest s' AW new)=>if Nat.beq s' s&&decide (AW=et)&& !(Nat.beq nE id)then some (.app id s et es new (some nE) [])else none
     |_=>match eI m s x with
      |some (new,rd)=>if x.has id then none else some (.app id s et es new none rd)
      |none=>none
    |_=>match eI m s x with
     |some (new,rd)=>if x.has id then none else some (.app id s et es new none rd)
     |none=>none)else none
   |_,_=>none
  |_,_,_=>none
 |.mapUpdate t x key v=>match E.P.underlying t,bD E f x,bD E f v with
  |some (.map kt _),.om id,.os id2=>match m id,m id2,keyOf E kt (bD E f key)with
   |some (.eX sU e es),some (.arr s e' rs),some key=>if decide (sU=kt)&&decide (e'=e)&&Nat.beq s (aT E.P e)then some (.upd id kt e es key s rs id2)else none
   |_,_,_=>none
  |_,_,_=>none
 |_=>none
def Sp.info(site:Nat):Sp→Kl×bp
 |.st id _ _ _ _ _ _ id2=>([(true,id2),(false,id)],[(true,id),(true,id2)])
 |.app id _ _ _ _ (some id2) _=>([(true,id2),(true,id)],[(true,id),(true,id2)])
 |.app id _ _ _ _ none rd=>([(true,id)],(true,id)::rd)
 |.lit _ _ _ id2=>([(true,id2)],[(true,site),(true,id2)])
 |.upd id _ _ _ _ _ _ id2=>([(true,id2),(false,id)],[(true,id),(true,id2)])
def Vq(site:Nat)(sp:Sp)(f:Fr)(m:Mem)(k:V→Fr→Mem→bp→Option R):Option R:=
 match sp with
 |.st id i off s et es ps id2=>(es[i]?).bind fun e=>k .top (kf [(true,id2),(false,id)] f) (qO [(id,.nest s et (es.set i (if s=1 then ps.headD .bad else .agg (bT (aL s e) off ps))))] (km [(true,id2),(false,id)] m)) [(true,id),(true,id2)]
 |.app id s et es new src rd=>if(es++new).length*CM E.P et≤aa then k (.os id) (kf (Sp.app id s et es new src rd|>.info site).1 f) (qO [(id,.nest s et (es++new))] (km (Sp.app id s et es new src rd|>.info site).1 m)) (Sp.app id s et es new src rd|>.info site).2 else none
 |.lit s et p id2=>k (.os site) (kf [(true,id2)] f) (qO [(site,.nest s et [p])] (km [(true,id2)] m)) [(true,site),(true,id2)]
 |.upd id kt e es key s rs id2=>k .top (kf [(true,id2),(false,id)] f) (qO [(id,.eX kt e (eR key (.fQ s rs) es))] (km [(true,id2),(false,id)] m)) [(true,id),(true,id2)]
def wQ(draw:Bool)(site:Nat)(t t':TypeId)(s x:V)(f:Fr)(m:Mem)(k:V→Fr→Mem→Option R):Option R:=
 if draw|| !(decide (t'=t))then none else
 match E.P.underlying t with
 |some (.slice e)=>if(dn E e).isNone then none else match eI m (aT E.P e) x with
  |some (new,_)=>match s with
   |.bk=>if new.length*CM E.P e≤aa∧0<CM E.P e∧0<aT E.P e then fresh draw site (.arr (aT E.P e) e new) f m (fun f m _=>k (.os site) f m)else none
   |.os id=>match m id with
    |some (.arr sz et es)=>if et=e∧sz=aT E.P e∧x.has id=false then(if(es++new).length*CM E.P e≤aa∧0<CM E.P e then fresh draw id (.arr sz e (es++new)) (eS id f) (bh (bE id m) id) (fun f m _=>k (.os id) f m)else none)else none
    |_=>none
   |_=>none
  |none=>none
 |_=>none
def Ga(t:TypeId)(d x:V)(m:Mem)(k:V→Mem→bp→Option R):Option R:=
 match E.P.underlying t with
 |some (.slice e)=>match d with
  |.os id=>match m id with
   |some (.arr sz et es)=>if sz=aT E.P e∧x.has id=false then En m sz x fun new ft=>k (.pv (.int .i64 (min new.length es.length:Nat))) (ao m id (.arr sz et (new.take es.length++es.drop new.length))) ((true,id)::ft)else none
   |_=>none
  |_=>none
 |_=>none
def AX(t:TypeId)(x:V)(m:Mem)(k:V→Mem→bp→Option R):Option R:=
 match E.P.underlying t with
 |some (.slice e)=>match x,ye E e with
  |.fj id lo len,some z=>match m id with
   |some (.arr sz et es)=>if sz=aT E.P e∧et=e∧lo+len≤es.length∧0<aT E.P e then k .top (ao m id (.arr sz et (es.take lo++(List.replicate len z++es.drop (lo+len))))) [(true,id)]else none
   |_=>none
  |_,_=>none
 |_=>none
def oh(draw:Bool)(site:Nat)(t:TypeId)(len cap:V)(f:Fr)(m:Mem)(k:V→Fr→Mem→bp→Option R):Option R:=
 match E.P.underlying t,len,cap with
 |some (.slice e),.pv (.int _ n),.pv (.int _ c)=>match ye E e with
  |some z=>if 0≤n∧n≤c∧c.toNat*CM E.P e≤aa∧0<CM E.P e∧0<aT E.P e then fresh draw site (.arr (aT E.P e) e (List.replicate n.toNat z)) f m (fun f m ft=>k (.os site) f m ft)else none
  |none=>none
 |_,_,_=>none
def Gb(a b:V)(k:PV→Option R):Option R:=match a,b with
 |.pv (.int q x),.pv (.int q' y)=>if q=q' then k (.int q (if y<x then y else x))else none
 |_,_=>none
def y9(a b:V)(k:PV→Option R):Option R:=match a,b with
 |.pv (.int q x),.pv (.int q' y)=>if q=q' then k (.int q (if y>x then y else x))else none
 |_,_=>none
def Gc(a b c d:V)(k:PV→Option R):Option R:=y9 a b fun p=>y9 (.pv p) c fun p=>y9 (.pv p) d k
def uD(t:TypeId):Bool:=match E.P.underlying t with|some (.int _)|some .bool|some .string=>true|_=>false
def gE(m:Mem):List V→Option (List PV×Mem)
 |[]=>some ([],m)
 |v::r=>match rP m v with
  |some (p,m)=>match gE m r with
   |some (ps,m)=>some (p::ps,m)
   |none=>none
  |none=>none
def C8:PV→PV
 |.int q n=>.int q n
 |.bool b=>.bool b
 |.str s=>.str s
 |_=>.bad
def sH(draw:Bool)(site:Nat)(fid:FuncId)(args:List V)(f:Fr)(m:Mem)(k:V→Fr→Mem→bp→Option R):Option R:=
 match E.ctx fid with
 |some M=>match E.P.funcs[fid]? with
  |some fn=>
   if fn.resultTypes.toList.all (uD E)then(match oc (jq m eH) args with
     |some ps=>(M ps).bind fun r=>y8 E fn.resultTypes.toList r fun v=>k v f m ((gD (c7 m eH) args).map fun i=>(false,i))
     |none=>none)
   else(match gE (if draw then dh else m) args with
     |some (ps,m')=>(M ps).bind fun r=>xW E fid fn.resultTypes.toList r fun v=>k v f (if draw then m else m') (if draw then[]else[(true,0)])
     |none=>none)
  |none=>none
 |none=>match E.own fid with
  |some M=>match E.P.funcs[fid]? with
   |some fn=>match fn.resultTypes.toList with
    |[t]=>match E.P.underlying t with
     |some (.slice e)=>if uD E e=true∧aT E.P e=1 then(match oc (jq m eH) args with
      |some ps=>(M ps).bind fun r=>(ab (aT E.P e) r).bind fun es=>fresh draw site (.arr (aT E.P e) e (es.map C8)) f m fun f m1 ft=>k (.os site) f m1 (ft++(gD (c7 m eH) args).map fun i=>(false,i))
      |none=>none)
      else match gE (if draw then dh else m) args with
      |some (ps,m')=>(M ps).bind fun r=>(ab (aT E.P e) r).bind fun es=>fresh draw site (.arr (aT E.P e) e es) f (if draw then m else m') fun f m ft=>k (.os site) f m ft
      |none=>none
     |_=>none
    |_=>none
   |none=>none
  |none=>if draw then none else E.inl R fid (site*4096+fid) args f m fun v f m=>k v f m [(true,0)]
def Qk(f:TypeId→Option (List TypeId)):List Field→Option (List TypeId)
 |[]=>some []
 |x::r=>(f x.type).bind fun a=>(Qk f r).bind fun b=>some (a++b)
def Ql(l:List TypeId):Nat→List TypeId
 |0=>[]
 |n+1=>l++Ql l n
def AY(P:Program):Nat→TypeId→Option (List TypeId)
 |0,_=>none
 |d+1,t=>match P.underlying t with
  |some (.struct fs)=>Qk (AY P d) fs.toList
  |some (.array n e)=>(AY P d e).bind fun l=>some (Ql l n)
  |some _=>some [t]
  |none=>none
def sI(n:Nat)(args:List V)(f:Fr):Fr:=fun t=>bif Nat.blt t n then args.getD t .top else f (t-n)
def te(n:Nat)(f:Fr):Fr:=fun t=>f (t+n)
def Qm:V→Bool
 |.bk=>true
 |_=>false
def qS(site j:Nat):Nat:=site+(j+1)*1606938044258990275541962092341162602522202993782792835301376
def uE(E:Env){R:Type}(site:Nat):List TypeId→Nat→Fr→Mem→(Fr→Mem→Option R)→Option R
 |[],_,F,m,k=>k F m
 |t::ts,j,F,m,k=>match F j with
  |.bk=>match E.P.underlying t with
   |some (.slice e)=>if 0<aT E.P e then fresh false (qS site j) (.arr (aT E.P e) e []) F m fun F m _=>uE E site ts (j+1) (fk F j (.os (qS site j))) m k else none
   |_=>none
  |_=>uE E site ts (j+1) F m k
def ZA(E:Env)(t:TypeId):Bool:=match E.P.underlying t with|some (.slice _)=>true|_=>false
def Eo(f:Fr):Option Operand→Bool
 |none=>true
 |some x=>match bD E f x with|.pv (.int _ _)=>true|_=>false
noncomputable def pP(n:Nat)(g:Nat→Option R):Option R:= @dite _ (∃r,∀i,i<n→g i=some r) (Classical.propDecidable _) (fun h=>some (Classical.choose h)) fun _=>none
def II(site:Nat)(t:TypeId)(x:V)(f:Fr)(m:Mem)(k:V→Fr→Mem→Option R):Option R:=
 match E.P.underlying t with
 |some (.map kt _)=>match x with
  |.om id=>match m id with
   |some (.map sU es)=>if sU=kt then fresh false site (.iter t es none) (eS id f) (bh (bE id m) id) fun f m _=>k (.it site) f m else none
   |_=>none
  |_=>none
 |_=>none
noncomputable def Qn(x:V)(f:Fr)(m:Mem)(k:V→Fr→Mem→Option R):Option R:=
 match x with
 |.it id=>match m id with
  |some (.iter t es _)=>match E.P.underlying t with
   |some (.map kt et)=>if es.isEmpty=true then k (.bl [.pv (.bool false)]) f m else pP es.length fun i=>(es[i]?).bind fun e=>fK E kt e.1 fun a=>fK E et e.2 fun b=>k (.bl [.pv (.bool true),.pv a,.pv b]) f (ao m id (.iter t (es.eraseIdx i) (some (a,b))))
   |_=>none
  |_=>none
 |_=>none
def IJ(x:V)(m:Mem)(k:V→Mem→Option R):Option R:=
 match x with
 |.it id=>match m id with
  |some (.iter t es (some (a,b)))=>k (.bl [.pv a,.pv b]) (ao m id (.iter t es none))
  |_=>none
 |_=>none
def IK:Op→Bool
 |.range .. =>true
 |.next .. =>true
 |.entry .. =>true
 |_=>false
noncomputable def cZ(draw:Bool)(site:Nat)(o:Oper)(f:Fr)(m:Mem)(k:V→Fr→Mem→bp→Option R):Option R:=
 match o.op with
 |.move x=>k (bD E f x) f m []
 |.assign x=>match bD E f x with
  |.bk=>match E.P.underlying o.type with
   |some (.slice e)=>if 0<aT E.P e then fresh draw site (.arr (aT E.P e) e []) f m fun f m ft=>k (.os site) f m ft else none
   |_=>k .bk f m []
  |v=>k v f m []
 |.pick c a b=>match bD E f c with
  |.pv (.bool t)=>if t then k (bD E f a) f m []else k (bD E f b) f m []
  |_=>none
 |.alloc t=>match dn E t with
  |some cs=>if !draw&&ZA E t then uE E site [t] 0 (sI cs.length cs f) m fun F m=>fresh false site (.box ((List.range cs.length).map F)) (te cs.length F) m fun f m ft=>k (.op site 0) f m ft else fresh draw site (.box cs) f m fun f m ft=>k (.op site 0) f m ft
  |none=>none
 |.box t x=>match toCells (aT E.P t) (bD E f x)with
  |some cs=>if !draw&&cs.any Qm then(match AY E.P 8 t with
   |some ts=>if ts.length=cs.length then uE E site ts 0 (sI cs.length cs f) m fun F m=>fresh false site (.box ((List.range cs.length).map F)) (te cs.length F) m fun f m ft=>k (.op site 0) f m ft else none
   |none=>none)else fresh draw site (.box cs) f m fun f m ft=>k (.op site 0) f m ft
  |none=>none
 |.build t parts=>yb E t (parts.toList.map fun(i,x)=>(i,bD E f x)) fun v=>k v f m []
 |.buildSlice t len parts=>match E.P.underlying t with
  |some (.slice e)=>if Me E e then(match AV 0 (parts.toList.map fun(i,x)=>(i,bD E f x))with
   |some cs=>if parts.size=len∧aT E.P e=1∧len≤16777216∧(dn E e).isSome=true then fresh draw site (.box cs) f m fun f m ft=>k (.os site) f m ft else none
   |none=>none)
   else if E.y6 (site+1000000000000000000000000000000)then(match eA dh (aT E.P e) (aF E.P e) 0 (parts.toList.map fun(i,x)=>(i,bD E f x))with
   |some (es,_)=>if es.length=len∧0<aT E.P e∧len*aT E.P e≤16777216∧(dn E e).isSome=true then k (.pv (.rs (aT E.P e) es)) f m []else none
   |none=>none)
   else match eA (if draw then dh else m) (aT E.P e) (aF E.P e) 0 (parts.toList.map fun(i,x)=>(i,bD E f x))with
   |some (es,m1)=>if es.length=len∧0<aT E.P e∧len*aT E.P e≤16777216∧(dn E e).isSome=true then fresh draw site (.arr (aT E.P e) e es) f (if draw then m else m1) fun f m ft=>k (.os site) f m ft else none
   |none=>none
  |_=>none
 |.load t a=>og E (E.y6 site) t (bD E f a) m fun v ft=>k v f m ft
 |.store t a x=>rR E draw t (bD E f a) (bD E f x) m fun m ft=>k .top f m ft
 |.nilCheck x=>match bD E f x with
  |.pv (.rp cs)=>k (.pv (.rp cs)) f m []
  |.op id off=>k (.op id off) f m []
  |.oe id i off=>k (.oe id i off) f m []
  |.wL id i off s j off2=>k (.wL id i off s j off2) f m []
  |.fn g cs=>k (.fn g cs) f m []
  |.pv (.fn g cs)=>k (.pv (.fn g cs)) f m []
  |_=>none
 |.binOp op t x y _=>match bD E f x,bD E f y with
  |.pv (.rs _ es),.bk=>if draw then none else IH E op t es fun b=>k (.pv (.bool b)) f m [(true,0)]
  |a,b=>F7 E op t y a b fun p=>k (.pv p) f m []
 |.unOp op _ x=>xun op (bD E f x) fun p=>k (.pv p) f m []
 |.convert s d x=>xY E s d (bD E f x) m fun p ft=>k (.pv p) f m ft
 |.makeFunc (.func g) first lY=>if first.isEmpty then k (.fn g (lY.toList.map (bD E f))) f m []else none
 |.makeMap t hint=>if Eo E f hint=true then match E.P.underlying t with
  |some (.map kt et)=>if(pM E.P kt).isSome then(if E.y6 site then(match E.P.underlying et with
   |some (.slice e)=>fresh draw site (.eX kt e []) f m fun f m ft=>k (.om site) f m ft
   |_=>none)
   else fresh draw site (.map kt []) f m fun f m ft=>k (.om site) f m ft)else none
  |_=>none
  else none
 |.makeSlice t l c=>oh E draw site t (bD E f l) (bD E f c) f m k
 |.slice t x lo hi mx=>rS E t (bD E f x) (lo.map (bD E f)) (hi.map (bD E f)) (mx.map (bD E f)) m fun v ft=>k v f m ft
 |.fieldAddr s x j=>iN E s (bD E f x) j fun v=>k v f m []
 |.field s x j=>AU E s (bD E f x) j fun v=>k v f m []
 |.indexAddr t x ix=>dz E t (bD E f x) (bD E f ix) m fun v ft=>k v f m ft
 |.index t x ix=>xZ E t (bD E f x) (bD E f ix) fun v=>k v f m []
 |.lookup t x ix ok=>if E.y6 site&& !ok then F9 E site t (bD E f x) (bD E f ix) m fun v m ft=>k v f m ft else rT E t (bD E f x) (bD E f ix) ok m fun v ft=>k v f m ft
 |.mapUpdate t x key v=>l5 E draw t (bD E f x) (bD E f key) (bD E f v) m fun m ft=>k .top f m ft
 |.insert t x key v=>l5 E draw t (bD E f x) (bD E f key) (bD E f v) m fun m ft=>k .top f m ft
 |.range t x=>if draw then none else II E site t (bD E f x) f m fun v f m=>k v f m [(true,0)]
 |.next x s=>if draw||s then none else Qn E (bD E f x) f m fun v f m=>k v f m [(true,0)]
 |.entry x=>if draw then none else IJ (bD E f x) m fun v m=>k v f m [(true,0)]
 |.extract t i=>match bD E f t with
  |.bl vs=>match vs[i]? with
   |some v=>k v f m []
   |none=>none
  |_=>none
 |.call c=>match c.callee,c.args.toList.map (bD E f)with
  |.builtin .len,[x]=>match c.argTypes.toList with
   |[t]=>F8 E t x m fun v ft=>k v f m ft
   |_=>none
  |.builtin .append,[s,x]=>match c.argTypes.toList with
   |[t,t']=>wQ E draw site t t' s x f m fun v f m=>k v f m [(true,0)]
   |_=>none
  |.builtin .copy,[d,x]=>match c.argTypes.toList with
   |t::_=>Ga E t d x m fun v m ft=>k v f m ft
   |_=>none
  |.builtin .clear,[x]=>match c.argTypes.toList with
   |t::_=>AX E t x m fun v m ft=>k v f m ft
   |_=>none
  |.builtin .min,[a,b]=>Gb a b fun p=>k (.pv p) f m []
  |.builtin .max,[a,b]=>y9 a b fun p=>k (.pv p) f m []
  |.builtin .max,[a,b,c,d]=>Gc a b c d fun p=>k (.pv p) f m []
  |.value (.func g),args=>sH E draw site g args f m k
  |.value (.tmp t),args=>match bD E f (.tmp t)with
   |.fn g lY=>sH E draw site g (args++lY) f m k
   |.pv (.fn g lY)=>sH E draw site g (args++lY.map .pv) f m k
   |.yl id=>if draw then none else E.yl R E.fn.ntmps site id args f m fun v f m=>k v f m [(true,0)]
   |_=>none
  |_,_=>none
 |_=>none
noncomputable def Gd(draw:Bool)(site:Nat)(o:Oper)(f:Fr)(m:Mem)(k:V→Fr→Mem→bp→Option R):Option R:=
 match(bif draw then none else bif E.y6 site then vQ E site o f m else none)with
 |some sp=>Vq E site sp f m k
 |none=>cZ E draw site o f m k
def eY(o:Oper):Bool:=
 match o.op with
 |.move _|.assign _|.pick .. |.load .. |.nilCheck _|.binOp .. |.unOp .. |.convert .. |.slice .. |.fieldAddr .. |.field .. |.indexAddr .. |.index .. |.lookup .. |.extract .. |.build .. =>true
 |.call {callee:=.builtin .len,.. }|.call {callee:=.builtin .min,.. }|.call {callee:=.builtin .max,.. }=>true
 |.call {callee:=.value _,.. }=>true
 |_=>false
def wR:bp→Bool
 |[]=>true
 |(w,_)::r=> !w&&wR r
abbrev Log:=List (Nat×Bool×Nat)
def AZ(o:Oper)(j:Nat):Bool:=o.after.toList.any fun e=>Region.binds .any e&&Nat.beq e.on j
mutual
def V.ids:V→List Nat
 |.agg cs=>Ge cs
 |.bl cs=>Ge cs
 |.fn _ cs=>Ge cs
 |.os j=>[j]
 |.fj j _ _=>[j]
 |.oe j _ _=>[j]
 |.om j=>[j]
 |.tc j _ _=>[j]
 |.wL j _ _ _ _ _=>[j]
 |.op j _=>[j]
 |.yl j=>[j]
 |.it j=>[j]
 |_=>[]
def Ge:List V→List Nat
 |[]=>[]
 |v::r=>v.ids++Ge r
end
def A0:Option bL→List Nat
 |some (.box cs)=>Ge cs
 |_=>[]
def uF(n:Nat):Nat:=n+2037035976334486086268445688409378161051468393665936250636140449354381299763336706183397376
def Ep(m m':Mem):bp→List Nat
 |[]=>[]
 |x::r=>A0 (m x.2)++A0 (m' x.2)++Ep m m' r
def Au(ops:Array Oper)(o:Oper)(f:Fr)(m m':Mem)(v:V)(ft:bp):List Nat:=Ge ((o.looksAt ops).map f)++v.ids++Ep m m' ft
def cH(E:Env)(d:Option Nat):Nat:=match d with|some d=>E.fid*4096+d|none=>E.fid*4096+4095
def isApp(E:Env)(o:Oper):Bool:=E.y6 (cH E o.dst)||match o.op with|.call {callee:=.builtin .append,.. }=>true|_=>false
def rU(E:Env)(f:Fr)(m:Mem)(o:Oper):Option (Nat×bp):=
 match o.op with
 |.call c=>match c.callee,c.args.toList.map (bD E f),c.argTypes.toList with
  |.builtin .append,[.os id,x],[t,_]=>match E.P.underlying t with
   |some (.slice e)=>match eI m (aT E.P e) x with
    |some (_,rd)=>if x.has id then none else some (id,rd)
    |none=>none
   |_=>none
  |_,_,_=>none
 |_=>none
def Er(E:Env)(f:Fr)(m:Mem)(o:Oper):Option (Kl×bp):=
 match(bif E.y6 (cH E o.dst)then vQ E (cH E o.dst) o f m else none)with
 |some sp=>some (sp.info (cH E o.dst))
 |none=>match rU E f m o with
  |some (id,rd)=>some ([(true,id)],(true,id)::rd)
  |none=>none
def reach(ops:Array Oper):Nat→Oper→Nat→Bool
 |0,o,j=>AZ o j
 |n+1,o,j=>AZ o j||o.after.toList.any fun e=>Region.binds .any e&&match ops[e.on]? with|some p=>reach ops n p j|none=>false
def Mf(ops:Array Oper)(o:Oper)(w:Bool)(id:Nat):Log→Bool
 |[]=>true
 |(j,w',nE)::r=>(!(Nat.beq id nE)||(!w&& !w')||reach ops 4 o j)&&Mf ops o w id r
def yf(ops:Array Oper)(o:Oper)(lg:Log):bp→Bool
 |[]=>true
 |(w,id)::r=>Mf ops o w id lg&&yf ops o lg r
def Av(ops:Array Oper)(o:Oper)(id:Nat):Log→Bool
 |[]=>true
 |(j,_,n)::r=>(!(Nat.beq n (uF id))||reach ops 4 o j)&&Av ops o id r
def uG(ops:Array Oper):List (Nat×Oper)→Oper→Bool
 |[],_=>true
 |(j,p)::r,o=>(p.apart ops o||reach ops 4 o j)&&uG ops r o
def mj(ops:Array Oper):List (Nat×Oper)→List (Nat×Oper)→Bool
 |_,[]=>true
 |done,(i,o)::r=>o.after.toList.all (fun e=> !(Region.binds .any e)||Nat.blt e.on i)&&uG ops done o&&mj ops ((i,o)::done) r
def guardOf(o:Oper)(A:List (Nat×Bool)):Option (Nat×Bool):=
 match o.guard with
 |none=>none
 |some g=>if A.elem g then none else some g
def za(A:List (Nat×Bool)):List (Nat×Oper)→List (Nat×Oper)×List (Nat×Oper)
 |[]=>([],[])
 |x::r=>match guardOf x.2 A with
  |some _=>let(a,b):=za A r;(x::a,b)
  |none=>([],x::r)
def kO(f:Fr):List (Nat×Oper)→Fr
 |[]=>f
 |x::r=>kO (gT f x.2.dst .top) r
def tf(g:Nat×Bool):List Nat→List (Nat×Oper)→Bool
 |_,[]=>true
 |done,x::r=>(match x.2.guard with
  |some h=>(Nat.beq h.1 g.1&&(h.2==g.2))||done.elem h.1
  |none=>false)&&tf g (x.1::done) r
def blind(ops:Array Oper)(body:List (Nat×Oper))(o:Oper):Bool:=body.all fun y=>match y.2.dst with
  |some d=> !((o.looksAt ops).elem d)
  |none=>true
def Qo:Bool→Bool→Bool
 |true,b=>b
 |false,b=> !b
def gF(f:Fr):List (Nat×Oper)→Fr
 |[]=>f
 |x::r=>gF (gT f x.2.dst (.bl [])) r
def vt:V→Option Bool
 |.pv (.bool b)=>some b
 |_=>none
end
def tg(E:Env)(o:Oper):Bool:=match o.dst with|some d=>Nat.blt d E.fn.ntmps|none=>true
def TI(E:Env)(f:Fr)(body:List (Nat×Oper))(o:Oper):Bool:=
 eY o&&match o.op with
 |.call {callee:=.value (.func g),.. }=>(E.ctx g).isSome
 |.call {callee:=.value (.tmp t),.. }=>match(match body.find? (fun x=>x.2.dst==some t)with
  |some (_,p)=>(match p.op with
   |.move y=>bD E f y
   |.assign y=>bD E f y
   |_=>.top)
  |none=>bD E f (.tmp t))with
  |.fn g _=>(E.ctx g).isSome
  |.pv (.fn g _)=>(E.ctx g).isSome
  |.yl _=>false
  |_=>true
 |_=>true
noncomputable def cq(E:Env)(ops:Array Oper)(mode:Nat):(fuel:Nat)→(R:Type)→List (Nat×Bool)→List (Nat×Oper)→Fr→Mem→Log→(Fr→Mem→Option R)→Option R
 |0,_,_,_,_,_,_,_=>none
 |_+1,_,_,[],f,m,_,k=>k f m
 |fuel+1,R,A,(i,o)::rest,f,m,lg,k=>
  match guardOf o A with
  |none=>
   if tg E o then
    match(bif Nat.beq mode 2 then Er E f m o else none)with
    |some (kl,ft)=>
     if yf ops o lg ft&&kl.all (fun x=>Av ops o x.2 lg)&&rest.all (fun x=>reach ops 4 x.2 i)then Gd E false (cH E o.dst) o f m fun v f1 m1 _=>cq E ops mode fuel R A rest (gT f1 o.dst v) m1 (ft.map (fun x=>(i,x))++lg) k
     else none
    |none=>Gd E (Nat.beq mode 1||Nat.beq mode 2) (cH E o.dst) o f m fun v f1 m1 ft=>
      if Nat.beq mode 2 then(if yf ops o lg ft then cq E ops mode fuel R A rest (gT f1 o.dst v) m1 ((bif ops.toList.any (isApp E)then(Au ops o f m m1 v ft).map (fun n=>(i,false,uF n))else[])++(ft.map (fun x=>(i,x))++lg)) k else none)
      else if Nat.beq mode 0 then cq E ops mode fuel R A rest (gT f1 o.dst v) m1 lg k
      else if wR ft then cq E ops mode fuel R A rest (gT f1 o.dst v) m1 lg k
      else none
   else none
  |some (j,yg)=>
   match((ops[j]?).bind (·.dst))with
   |some tj=>match bD E f (.tmp tj)with
    |.pv (.bool b)=>
     match za A ((i,o)::rest)with
     |(body,Gf)=>
     if Nat.beq mode 0&& !(body.all fun x=>TI E f body x.2)then
      (if(body.all fun x=>tg E x.2)&&tf (j,yg) [] body&&((i,o)::rest).all (fun x=> !(x.2.dst==some tj))then
       bif Qo yg b then cq E ops mode fuel R ((j,yg)::A) ((i,o)::rest) (fk f tj (.pv (.bool yg))) m lg k
       else cq E ops mode fuel R A Gf (gF (fk f tj (.pv (.bool !yg))) body) m lg k
      else none)
     else match Gf with
     |(_,p)::kP=>
      match p.op with
      |.pick (.tmp c) x y=>
       if Nat.beq c tj&&(guardOf p A).isNone&&body.all (fun x=>eY x.2&&tg E x.2&& !(x.2.dst==some tj))&&tf (j,yg) [] body&&kP.all (fun x=>blind ops body x.2)&&tg E p&& !(Nat.beq mode 2)then
        (match yg with
         |true=>bif b then cq E ops (bif Nat.beq mode 0 then 3 else mode) fuel Bool ((j,yg)::A) body f m lg (fun f _=>vt (bD E f x))else vt (bD E (kO f body) y)
         |false=>bif b then vt (bD E (kO f body) x)else cq E ops (bif Nat.beq mode 0 then 3 else mode) fuel Bool ((j,yg)::A) body f m lg (fun f _=>vt (bD E f y))).bind fun r=>
        cq E ops mode fuel R A kP (gT (kO f body) p.dst (.pv (.bool r))) m lg k
       else none
      |_=>none
     |[]=>none
    |_=>none
   |none=>none
inductive Ex where
 |normal
 |exit (id:Nat)
 |ret
def Gg{R:Type}(body:Fr→Mem→(Fr→Mem→Option R)→Option R):Nat→Fr→Mem→Option R
 |0,_,_=>none
 |n+1,f,m=>body f m (Gg body n)
def uH:Code→Nat
 |.region id _ _=>id
 |.seq a _=>uH a
 |.cond _ a _=>uH a
 |.block _ b=>uH b
 |.loop b=>uH b
 |.scope b=>uH b
 |_=>0
def Mg:List Sh→Type→Type
 |[],T=>T
 |.raw::r,T=>PV×Mg r T
 |.int _::r,T=>Int×Mg r T
 |.bool::r,T=>Bool×Mg r T
 |.str::r,T=>Bytes×Mg r T
 |.rs _::r,T=>List PV×Mg r T
 |.rp _::r,T=>PV×Mg r T
 |.fs _::r,T=>List PV×Mg r T
 |.row _ _::r,T=>Int×Mg r T
 |.own _::r,T=>Mg r T
def FU:List (Nat×Qi)→Type
 |[]=>Unit
 |(_,.box cs)::r=>Mg cs (FU r)
 |(_,.arr _ _)::r=>List PV×FU r
 |(_,.nP _ _)::r=>List PV×FU r
 |(_,.map _)::r=>List (PV×PV)×FU r
 |(_,.nest _ _)::r=>List PV×FU r
 |(_,.eX _ _)::r=>List (PV×PV)×FU r
 |(_,.loop)::r=>FU r
 |(_,.busy)::r=>FU r
 |(_,.iter _)::r=>List (PV×PV)×FU r
def fi.iI(T:fi):List Sh:=T.aA.map Prod.snd
abbrev fi.ty(T:fi):Type:=Mg T.iI (FU T.bR)
mutual
def V.same:V→V→Bool
 |.op i o,.op j p=>Nat.beq i j&&Nat.beq o p
 |.oe i a o,.oe j b p=>Nat.beq i j&&Nat.beq a b&&Nat.beq o p
 |.os i,.os j=>Nat.beq i j
 |.om i,.om j=>Nat.beq i j
 |.yl i,.yl j=>Nat.beq i j
 |.it i,.it j=>Nat.beq i j
 |.bk,.bk=>true
 |.pv .nD,.pv .nD=>true
 |.pv .sR,.pv .sR=>true
 |.pv (.int q x),.pv (.int q' y)=>decide (q=q')&&decide (x=y)
 |.fn f cs,.fn g ds=>Nat.beq f g&&C9 cs ds
 |_,_=>false
def C9:List V→List V→Bool
 |[],[]=>true
 |a::as,b::bs=>a.same b&&C9 as bs
 |_,_=>false
end
section
variable {R:Type}
def iJ{T:Type}:(iI:List Sh)→List V→T→(Mg iI T→Option R)→Option R
 |[],[],t,k=>k t
 |.int q::iI,.pv (.int q' n)::vs,t,k=>if q'=q then iJ iI vs t (fun r=>k (n,r))else none
 |.raw::iI,.pv p::vs,t,k=>iJ iI vs t (fun r=>k (p,r))
 |.bool::iI,.pv (.bool b)::vs,t,k=>iJ iI vs t (fun r=>k (b,r))
 |.str::iI,.pv (.str s)::vs,t,k=>iJ iI vs t (fun r=>k (s,r))
 |.rs sz::iI,.pv (.rs CG es)::vs,t,k=>if CG=sz then iJ iI vs t (fun r=>k (es,r))else none
 |.rp n::iI,.pv (.rp cs)::vs,t,k=>if cs.length=n then iJ iI vs t (fun r=>k (.agg cs,r))else none
 |.fs s::iI,.pv p::vs,t,k=>(TH s p).bind fun ls=>iJ iI vs t (fun r=>k (ls,r))
 |.row id off::iI,.tc nE i qk::vs,t,k=>if nE=id∧qk=off then iJ iI vs t (fun r=>k ((i:Int),r))else none
 |.own v::iI,u::vs,t,k=>if v.same u then iJ iI vs t k else none
 |_,_,_,_=>none
def qT(m:Mem):(bs:List (Nat×Qi))→(FU bs→Option R)→Option R
 |[],k=>k ()
 |(id,.box cs)::r,k=>match m id with
  |some (.box vs)=>qT m r fun t=>iJ (T:=FU r) cs vs t k
  |_=>none
 |(id,.arr sz et)::r,k=>match m id with
  |some (.arr CG AW es)=>if CG=sz∧AW=et then qT m r fun t=>k (es,t)else none
  |_=>none
 |(id,.nP sz et)::r,k=>match m id with
  |some (.nP CG AW es)=>if CG=sz∧AW=et then qT m r fun t=>k (es,t)else none
  |_=>none
 |(id,.map kt)::r,k=>match m id with
  |some (.map sU es)=>if sU=kt then qT m r fun t=>k (es,t)else none
  |_=>none
 |(id,.nest sz et)::r,k=>match m id with
  |some (.nest CG AW es)=>if CG=sz∧AW=et then qT m r fun t=>k (es,t)else none
  |_=>none
 |(id,.eX kt e)::r,k=>match m id with
  |some (.eX sU e' es)=>if sU=kt∧e'=e then qT m r fun t=>k (es,t)else none
  |_=>none
 |(id,.loop)::r,k=>match m id with
  |some (.loop .ready)=>qT m r k
  |_=>none
 |(id,.busy)::r,k=>match m id with
  |some (.loop .busy)=>qT m r k
  |_=>none
 |(id,.iter t)::r,k=>match m id with
  |some (.iter t' es none)=>if t'=t then qT m r fun u=>k (es,u)else none
  |_=>none
def Sh.within(M:List Nat):Sh→Bool
 |.own v=>v.within M
 |.row id _=>M.elem id
 |_=>true
def Qi.within(M:List Nat):Qi→Bool
 |.box cs=>cs.all (·.within M)
 |_=>true
def fi.ok(T:fi):Bool:=T.aA.all (fun x=>x.2.within (T.bR.map (·.1)))&&T.bR.all (fun x=>x.2.within (T.bR.map (·.1)))
def A1:List Sh→List V→Bool
 |[],[]=>true
 |.raw::iI,.pv _::vs=>A1 iI vs
 |.int q::iI,.pv (.int q' _)::vs=>decide (q'=q)&&A1 iI vs
 |.bool::iI,.pv (.bool _)::vs=>A1 iI vs
 |.str::iI,.pv (.str _)::vs=>A1 iI vs
 |.rs sz::iI,.pv (.rs CG _)::vs=>Nat.beq CG sz&&A1 iI vs
 |.rp n::iI,.pv (.rp cs)::vs=>Nat.beq cs.length n&&A1 iI vs
 |.fs s::iI,.pv p::vs=>(TH s p).isSome&&A1 iI vs
 |.row id off::iI,.tc nE _ qk::vs=>Nat.beq nE id&&Nat.beq qk off&&A1 iI vs
 |.own v::iI,u::vs=>v.same u&&A1 iI vs
 |_,_=>false
def CN(m:Mem):List (Nat×Qi)→Bool
 |[]=>true
 |(id,.box cs)::r=>(match m id with|some (.box vs)=>A1 cs vs|_=>false)&&CN m r
 |(id,.arr sz _)::r=>(match m id with|some (.arr CG _ _)=>Nat.beq CG sz|_=>false)&&CN m r
 |(id,.nP sz _)::r=>(match m id with|some (.nP CG _ _)=>Nat.beq CG sz|_=>false)&&CN m r
 |(id,.map _)::r=>(match m id with|some (.map _ _)=>true|_=>false)&&CN m r
 |(id,.nest sz _)::r=>(match m id with|some (.nest CG _ _)=>Nat.beq CG sz|_=>false)&&CN m r
 |(id,.eX _ _)::r=>(match m id with|some (.eX _ _ _)=>true|_=>false)&&CN m r
 |(id,.loop)::r=>(match m id with|some (.loop .ready)=>true|_=>false)&&CN m r
 |(id,.busy)::r=>(match m id with|some (.loop .busy)=>true|_=>false)&&CN m r
 |(id,.iter _)::r=>(match m id with|some (.iter _ _ none)=>true|_=>false)&&CN m r
def fits(f:Fr)(m:Mem)(T:fi):Bool:=CN m T.bR&&A1 T.iI (T.aA.map fun(x:Nat×Sh)=>f x.1)
def enc(T:fi)(f:Fr)(m:Mem)(k:T.ty→Option R):Option R:=if T.ok then qT m T.bR fun t=>iJ (T:=FU T.bR) T.iI (T.aA.map fun(x:Nat×Sh)=>f x.1) t k else none
end
def pA{T:Type}:(iI:List Sh)→Mg iI T→List V×T
 |[],t=>([],t)
 |.int q::iI,x=>let r:=pA iI x.2;(.pv (.int q x.1)::r.1,r.2)
 |.raw::iI,x=>let r:=pA iI x.2;(.pv x.1::r.1,r.2)
 |.bool::iI,x=>let r:=pA iI x.2;(.pv (.bool x.1)::r.1,r.2)
 |.str::iI,x=>let r:=pA iI x.2;(.pv (.str x.1)::r.1,r.2)
 |.rs sz::iI,x=>let r:=pA iI x.2;(.pv (.rs sz x.1)::r.1,r.2)
 |.rp n::iI,x=>let r:=pA iI x.2;(.pv (.rp (aL n x.1))::r.1,r.2)
 |.fs s::iI,x=>let r:=pA iI x.2;(.pv (El s ((List.range s.n).map fun j=>x.1.getD j .bad)).1::r.1,r.2)
 |.row id off::iI,x=>let r:=pA iI x.2;(.tc id x.1.toNat off::r.1,r.2)
 |.own v::iI,x=>let r:=pA (T:=T) iI x;(v::r.1,r.2)
def gd:(bs:List (Nat×Qi))→FU bs→List (Nat×Option bL)
 |[],_=>[]
 |(id,.box cs)::r,x=>let y:=pA (T:=FU r) cs x;(id,some (.box y.1))::gd r y.2
 |(id,.arr sz et)::r,x=>(id,some (.arr sz et x.1))::gd r x.2
 |(id,.nP sz et)::r,x=>(id,some (.nP sz et x.1))::gd r x.2
 |(id,.map kt)::r,x=>(id,some (.map kt x.1))::gd r x.2
 |(id,.nest sz et)::r,x=>(id,some (.nest sz et x.1))::gd r x.2
 |(id,.eX kt e)::r,x=>(id,some (.eX kt e x.1))::gd r x.2
 |(id,.loop)::r,x=>(id,some (.loop .ready))::gd (r:List (Nat×Qi)) x
 |(id,.busy)::r,x=>(id,some (.loop .busy))::gd (r:List (Nat×Qi)) x
 |(id,.iter t)::r,x=>(id,some (.iter t x.1 none))::gd r x.2
def oi:List (Nat×Sh)→List V→List (Nat×V)
 |(t,_)::r,v::vs=>(t,v)::oi r vs
 |_,_=>[]
def IL(T:fi)(x:T.ty):Fr:=IG (oi T.aA (pA (T:=FU T.bR) T.iI x).1)
def A2(T:fi)(x:T.ty):Mem:=AO (gd T.bR (pA (T:=FU T.bR) T.iI x).2)
def zb{A:Type}:List (Nat×Nat)→Fr→Mem→(Fr→Mem→A)→A
 |[],f,m,k=>k f m
 |(t,sz)::r,f,m,k=>match f t with
  |.os id=>match m id with
   |some (.arr s et es)=>zb r (fk f t (.pv (.rs s es))) (ao m id (.nP s et es)) k
   |some (.nP s _ es)=>zb r (fk f t (.pv (.rs s es))) m k
   |_=>zb r f m k
  |.bk=>zb r (fk f t (.pv (.rs sz []))) m k
  |_=>zb r f m k
def Da{A:Type}:List (Nat×Nat×Nat)→Mem→(Mem→A)→A
 |[],m,k=>k m
 |(id,j,sz)::r,m,k=>match m id with
  |some (.box cs)=>match cs[j]? with
   |some .bk=>Da r (ao m id (.box (cs.set j (.pv (.rs sz []))))) k
   |_=>Da r m k
  |_=>Da r m k
def zd{A:Type}(P:Program):List (Nat×Nat×Nat×TypeId)→Mem→(Mem→A)→A
 |[],m,k=>k m
 |(id,j,Qp,et)::r,m,k=>match m id with
  |some (.box cs)=>match cs[j]? with
   |some .bk=>match m Qp with
    |none=>if 0<aT P et then zd P r (ao (ao m Qp (.arr (aT P et) et [])) id (.box (cs.set j (.os Qp)))) k else zd P r m k
    |some _=>zd P r m k
   |_=>zd P r m k
  |_=>zd P r m k
def Gh{A:Type}:List Nat→Mem→(Mem→A)→A
 |[],m,k=>k m
 |id::r,m,k=>match m id with
  |some (.arr s et es)=>Gh r (ao m id (.nest s et es)) k
  |_=>Gh r m k
def ze{A:Type}:List (Nat×Nat)→Fr→Mem→(Fr→Mem→A)→A
 |[],f,m,k=>k f m
 |(id,j)::r,f,m,k=>match m id with
  |some (.box cs)=>match cs[j]? with
   |some (.fj a 0 len)=>match m a with
    |some (.arr s et es)=>if Nat.beq a id then ze r f m k else ze r (eS a f) (ao (ao (bh (bE a m) a) a (.arr s et (es.take len))) id (.box ((cs.map (pN a)).set j (.os a)))) k
    |_=>ze r f m k
   |_=>ze r f m k
  |_=>ze r f m k
def Db{A:Type}(P:Program)(T:fi)(f:Fr)(m:Mem)(k:Fr→Mem→A):A:=ze T.ct f m fun f m=>zd P T.bo m fun m=>Da T.bz m fun m=>Gh T.nz m fun m=>zb T.fz f m k
variable{R:Type}
def Ex.Gi(k1:Fr→Mem→Option R)(k:Ex→Fr→Mem→Option R):Ex→Fr→Mem→Option R
 |.normal,f,m=>k1 f m
 |e,f,m=>k e f m
def Ex.Qq(id:Nat)(k:Ex→Fr→Mem→Option R):Ex→Fr→Mem→Option R
 |.exit j,f,m=>if j=id then k .normal f m else k (.exit j) f m
 |e,f,m=>k e f m
def Ex.jmp:Ex→Option YX
 |.normal=>none
 |.exit id=>some (.exit id)
 |.ret=>some .ret
def YX.ex:YX→Ex
 |.ret=>.ret
 |.exit id=>.exit id
def Mh(n:Nat)(g f:Fr):Fr:=fun t=>bif Nat.blt t n then g t else f (t-n)
def A3:List Nat→List V→Fr→Fr
 |p::ps,v::vs,f=>A3 ps vs (fk f p v)
 |_,_,f=>f
def roundOf(as b:Fr→Mem→(Ex→Fr→Mem→Option R)→Option R)(lid n:Nat)(ps:List Nat)(nt:Nat)(args:List V)(F:Fr)(m:Mem)(k:V→Fr→Mem→Option R):Option R:=
 match m lid with
 |some (.loop .ready)=>if args.length=ps.length then
  as (Mh n (A3 ps args (te nt F)) F) m fun e f m=>match e,m lid with
   |.normal,some (.loop .ready)=>b f (ao m lid (.loop .busy)) fun e f m=>match m lid with
    |some (.loop .busy)=>match e.jmp with
     |none=>k (.pv (.bool true)) (te n f) (ao m lid (.loop .ready))
     |some j=>k (.pv (.bool false)) (te n f) (ao m lid (.loop (.done j)))
    |_=>none
   |_,_=>none
  else none
 |_=>none
def WE:V→Option (FuncId×List V)
 |.fn g lY=>some (g,lY)
 |.pv (.fn g lY)=>some (g,lY.map .pv)
 |_=>none
def ZB(E:Env)(o:Oper):Bool:=match o.op with
 |.call c=>match c.callee with
  |.value (.func g)=>(E.ctx g).isNone&&(E.own g).isNone
  |_=>false
 |_=>false
def TJ(E:Env)(ops:Array Oper):Option Nat:=ops.toList.findIdx? (ZB E)
def Qr(ops:Array Oper)(p:Nat):Bool:=match ops[p]? with
 |none=>false
 |some o=>o.guard.isNone&&o.after.toList.all (fun e=> !(Region.binds .any e)||Nat.blt e.on p)&&((List.range ops.size).zip ops.toList).all fun x=>bif Nat.blt x.1 p then reach ops 8 o x.1 else Nat.beq x.1 p||reach ops 8 x.2 p
noncomputable def e9:(E:Env)→{R:Type}→Code→Fr→Mem→(Ex→Fr→Mem→Option R)→Option R
 |E,_,.skip,f,m,k=>k .normal f m
 |E,R,.region _ ops draw,f,m,k=>
  if draw then
   match TJ E ops with
   |some p=>if Qr ops p&&mj ops [] (((List.range ops.size).zip ops.toList).take p)&&mj ops [] (((List.range ops.size).zip ops.toList).drop (p+1))then
     cq E ops 2 (ops.size+1) R [] (((List.range ops.size).zip ops.toList).take p) f m [] fun f m=>
     cq E ops 0 3 R [] ((((List.range ops.size).zip ops.toList).drop p).take 1) f m [] fun f m=>
     cq E ops 2 (ops.size+1) R [] (((List.range ops.size).zip ops.toList).drop (p+1)) f m [] fun f m=>k .normal f m
    else none
   |none=>
   (if mj ops [] ((List.range ops.size).zip ops.toList)then
    (if ops.toList.all eY then cq E ops 1 (ops.size+1) R [] ((List.range ops.size).zip ops.toList) f m [] fun f m=>k .normal f m
    else cq E ops 2 (ops.size+1) R [] ((List.range ops.size).zip ops.toList) f m [] fun f m=>k .normal f m)
   else none)
  else cq E ops 0 (ops.size+ops.size+1) R [] ((List.range ops.size).zip ops.toList) f m [] fun f m=>k .normal f m
 |E,R,.seq a b,f,m,k=>e9 E a f m (Ex.Gi (fun f m=>e9 E b f m k) k)
 |E,R,.cond c a b,f,m,k=>match c,bD E f c with
  |.tmp x,.pv (.bool t)=>if t then e9 E a (fk f x (.pv (.bool true))) m k else e9 E b (fk f x (.pv (.bool false))) m k
  |_,_=>none
 |E,R,.block id b,f,m,k=>e9 E b f m (Ex.Qq id k)
 |E,R,.loop b,f,m,k=>match(E.hint E.fid (uH b)).find? (fun T=>Db E.P T f m fun f m=>fits f m T)with
  |some T=>Db E.P T f m fun f m=>enc T f m (E.lp.run fun s rec=>e9 E b (IL T s) (A2 T s) (Ex.Gi (fun f m=>Db E.P T f m fun f m=>enc T f m rec) k))
  |none=>Gg (fun f m rec=>e9 E b f m (Ex.Gi rec k)) E.u f m
 |E,R,.exit id,f,m,k=>k (.exit id) f m
 |E,R,.ret,f,m,k=>k .ret f m
 |E,R,.label _,f,m,k=>k .normal f m
 |E,R,.scope b,f,m,k=>e9 E b f m k
 |E,R,.rangeFunc g ps as b,f,m,k=>if E.WD then none else match ps.toList with
  |p0::_=>fresh true (cH E (some p0)) (.loop .ready) f m fun f m _=>match WE (bD E f g)with
   |some (gid,lY)=>E.WC R gid (cH E (some p0)*4096+gid) (fun _ nt site id args F m k=>bif Nat.beq id (cH E (some p0))then
     roundOf (e9 {E with fid:=site*4096+E.fid%4096,yl:=xV,WD:=true} as) (e9 {E with fid:=site*4096+E.fid%4096,yl:=xV,WD:=true} b) (cH E (some p0)) E.fn.ntmps ps.toList nt args F m k
     else none)
    (.yl (cH E (some p0))::lY) f m fun _ f m=>match m (cH E (some p0))with
     |some (.loop .ready)=>k .normal (eS (cH E (some p0)) f) (bh (bE (cH E (some p0)) m) (cH E (some p0)))
     |some (.loop (.done j))=>k j.ex (eS (cH E (some p0)) f) (bh (bE (cH E (some p0)) m) (cH E (some p0)))
     |_=>none
   |_=>none
  |[]=>none
 |_,_,_,_,_,_=>none
def wS(E:Env){R:Type}(f:Fr)(m:Mem):List ResultVar→(List V→Option R)→Option R
 |[],k=>k []
 |.tmp t::rs,k=>wS E f m rs fun vs=>k (bD E f (.tmp t)::vs)
 |.cell a t::rs,k=>og E false t (bD E f (.tmp a)) m fun v _=>wS E f m rs fun vs=>k (v::vs)
def Qs(E:Env)(rs:List ResultVar)(f:Fr)(m:Mem):Option PV:=wS E f m rs fun vs=>match vs with
  |[v]=>jq m eH v
  |vs=>(oc (jq m eH) vs).bind fun ps=>some (.bl ps)
section
variable {R:Type} (E:Env)
def Es(t:TypeId)(p:PV)(k:PV→Option R):Option R:=
 match E.P.underlying t with
 |some (.int _)=>fK E t p k
 |some .bool=>fK E t p k
 |some .string=>fK E t p k
 |some (.slice _)=>fK E t p k
 |some (.map _ _)=>fK E t p k
 |_=>k p
def nF:List TypeId→List PV→(List PV→Option R)→Option R
 |t::ts,p::ps,k=>Es E t p fun q=>nF ts ps fun qs=>k (q::qs)
 |_,ps,k=>k ps
def Mi(n:Nat)(p:PV)(a:Option R)(b:PV→Option R):Option R:=
 match p with
 |.nD=>a
 |.rp cs=>if n≤cs.length then b (.agg cs)else none
 |_=>none
def Qt(t:TypeId)(p:PV)(k:PV→Option R):Option R:=
 match E.P.underlying t with
 |some (.struct _)=>(asAgg (aT E.P t) p).bind fun _=>match AY E.P 8 t with
  |some ts=>nF E ts (aL (aT E.P t) p) fun cs=>k (.agg cs)
  |none=>none
 |some (.array _ _)=>(asAgg (aT E.P t) p).bind fun _=>match AY E.P 8 t with
  |some ts=>nF E ts (aL (aT E.P t) p) fun cs=>k (.agg cs)
  |none=>none
 |some (.pointer e)=>Mi (aT E.P e) p (k .nD) fun q=>match AY E.P 8 e with
  |some ts=>nF E ts (aL (aT E.P e) q) fun cs=>k (.rp cs)
  |none=>none
 |_=>Es E t p k
def vR:List TypeId→List PV→(List PV→Option R)→Option R
 |t::ts,p::ps,k=>Qt E t p fun q=>vR ts ps fun qs=>k (q::qs)
 |_,ps,k=>k ps
end
def A4(args:List V):Fr:=fun t=>args.getD t .top
noncomputable def Aw(E:Env)(args:List V)(f:Fr)(m:Mem)(k:V→Fr→Mem→Option R):Option R:=
 match E.fn.body with
 |some c=>if args.length≤E.fn.ntmps then e9 E c (sI E.fn.ntmps args f) m (fun e f m=>match e with
  |.exit _=>none
  |_=>wS E f m E.fn.results.toList fun vs=>match vs with
   |[v]=>k v (te E.fn.ntmps f) m
   |vs=>k (.bl vs) (te E.fn.ntmps f) m)else none
 |none=>none
def WG(E:Env)(f:Fr)(m:Mem):Option PV:=
 match E.fn.resultTypes.toList with
 |[t]=>match E.P.underlying t with
  |some (.slice e)=>wS E f m E.fn.results.toList fun vs=>match vs with
   |[.os id]=>match m id with
    |some (.arr sz et es)=>if sz=aT E.P e∧et=e then some (.rs sz es)else none
    |_=>none
   |[.fj id 0 len]=>match m id with
    |some (.arr sz et es)=>if sz=aT E.P e∧et=e then some (.rs sz (es.take len))else none
    |_=>none
   |_=>none
  |_=>none
 |_=>none
noncomputable def kQ(E:Env)(args:List PV):Option PV:=
 match E.fn.body with
 |some c=>if args.length≤E.fn.ntmps then vR E E.fn.params.toList args fun vs=>e9 E c (A4 (vs.map .pv)) (fun _=>none) (fun e f m=>match e with
  |.exit _=>none
  |_=>WG E f m)else none
 |none=>none
noncomputable def aQ(E:Env)(args:List PV):Option PV:=
 match E.fn.body with
 |some c=>if args.length≤E.fn.ntmps then vR E E.fn.params.toList args fun vs=>e9 E c (A4 (vs.map .pv)) (fun _=>none) (fun e f m=>match e with
  |.normal=>Qs E E.fn.results.toList f m
  |.ret=>Qs E E.fn.results.toList f m
  |.exit _=>none)else none
 |none=>none
end Go.Ab
