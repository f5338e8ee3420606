import Derived.Test.YtanikidijjaohaaGreatAbDefs
import Derived.Deep.Quiet
set_option linter.unusedVariables false
set_option linter.unusedSimpArgs false
namespace Go.Ab
inductive FS where
 |raw
 |fn (g:FuncId) (caps:List FS)
 |ptr (cells:List FS)
mutual
def Zs:FS→PV→Option (List PV)
 |.raw,p=>some [p]
 |.fn g cs,.fn g' qs=>if g'=g then K3 cs qs else none
 |.ptr cs,.rp qs=>K3 cs qs
 |_,_=>none
def K3:List FS→List PV→Option (List PV)
 |[],[]=>some []
 |s::ss,p::ps=>(Zs s p).bind fun a=>(K3 ss ps).bind fun b=>some (a++b)
 |_,_=>none
end
mutual
def Jb:FS→List PV→PV×List PV
 |.raw,[]=>(.bad,[])
 |.raw,p::r=>(p,r)
 |.fn g cs,l=>(.fn g (C2 cs l).1,(C2 cs l).2)
 |.ptr cs,l=>(.rp (C2 cs l).1,(C2 cs l).2)
def C2:List FS→List PV→List PV×List PV
 |[],l=>([],l)
 |s::ss,l=>((Jb s l).1::(C2 ss (Jb s l).2).1,(C2 ss (Jb s l).2).2)
end
mutual
def FS.n:FS→Nat
 |.raw=>1
 |.fn _ cs=>nFs cs
 |.ptr cs=>nFs cs
def nFs:List FS→Nat
 |[]=>0
 |s::ss=>s.n+nFs ss
end
inductive Sh where
 |raw
 |int (q:IntKind)
 |bool
 |str
 |rs (sz:Nat)
 |rp (n:Nat)
 |fs (s:FS)
 |row (id off:Nat)
 |own (v:V)
inductive VZ where
 |box (cs:List Sh)
 |arr (sz:Nat) (et:TypeId)
 |ri (sz:Nat) (et:TypeId)
 |map (kt:TypeId)
 |nest (sz:Nat) (et:TypeId)
 |fv (kt e:TypeId)
 |loop
 |busy
 |iter (t:TypeId)
structure eA where
 ax:List (Nat×Sh)
 bD:List (Nat×VZ)
 fz:List (Nat×Nat):=[]
 bz:List (Nat×Nat×Nat):=[]
 bo:List (Nat×Nat×Nat×TypeId):=[]
 nz:List Nat:=[]
 ct:List (Nat×Nat):=[]
structure aX where
 run:{S R:Type}→(S→(S→Option R)→Option R)→S→Option R
 room:Nat→Bool
 vi:∀n,room n=true→(n:Int)≤IntKind.i64.max
def cR{S R:Type}(body:S→(S→Option R)→Option R):Nat→S→Option R
 |0,_=>none
 |n+1,s=>body s (cR body n)
abbrev YL:=(R:Type)→Nat→Nat→Nat→List V→Fr→Mem→(V→Fr→Mem→Option R)→Option R
def BT:YL:=fun _ _ _ _ _ _ _ _=>none
structure Env where
 P:Program
 ctx:FuncId→Option (List PV→Option PV)
 aM:Nat→Option (List PV)
 fid:FuncId
 fn:Func
 lp:aX
 hint:Nat→Nat→List eA
 u:Nat
 own:FuncId→Option (List PV→Option PV)
 inl:(R:Type)→FuncId→Nat→List V→Fr→Mem→(V→Fr→Mem→Option R)→Option R
 rng:(R:Type)→FuncId→Nat→YL→List V→Fr→Mem→(V→Fr→Mem→Option R)→Option R
 yl:YL
 rdb:Bool:=false
 fnr:FuncId→Option FS:=fun _=>none
 BU:Nat→Bool:=fun _=>false
section
variable {R:Type} (E:Env)
def dZ(kt:TypeId)(p:PV)(a:Option R)(b:List PV→List PV→Option R):Option R:=
 match p with
 |.wJ=>a
 |.rm wL ks vs=>if wL=kt then b ks vs else none
 |_=>none
def gQ(t:TypeId)(p:PV)(k:PV→Option R):Option R:=
 match E.P.underlying t with
 |some (.int q)=>(asInt q p).bind fun n=>k (.int q n)
 |some .bool=>(asBool p).bind fun b=>k (.bool b)
 |some .string=>(dg p).bind fun s=>k (.str s)
 |some (.slice e)=>(aP (aV E.P e) p).bind fun es=>k (.rs (aV E.P e) es)
 |some (.struct _)=>(asAgg (aV E.P t) p).bind fun _=>k (.agg (aJ (aV E.P t) p))
 |some (.array _ _)=>(asAgg (aV E.P t) p).bind fun _=>k (.agg (aJ (aV E.P t) p))
 |some (.pointer _)=>match p with
  |.qU=>k p
  |.rp _=>k p
  |_=>none
 |some (.map kt _)=>dZ kt p (k .wJ) fun ks vs=>k (.rm kt ks vs)
 |some (.func _ _ _)=>match p with
  |.BR=>k .BR
  |.fn g cs=>k (.fn g cs)
  |_=>none
 |some (.interface _)=>(Se p).bind fun b=>k (.Y8 b)
 |_=>none
def AO(t:TypeId)(v:V)(k:V→Option R):Option R:=
 match v with
 |.pv p=>gQ E t p fun p=>k (.pv p)
 |.top=>none
 |v=>if(E.P.underlying t).isSome then k v else none
def C3:List TypeId→List PV→(List V→Option R)→Option R
 |[],[],k=>k []
 |t::ts,p::ps,k=>gQ E t p fun q=>C3 ts ps fun vs=>k (.pv q::vs)
 |_,_,_=>none
def C4(ts:List TypeId)(r:PV)(k:V→Option R):Option R:=
 match ts with
 |[]=>(cZ 0 r).bind fun _=>k (.bu [])
 |[t]=>gQ E t r fun q=>k (.pv q)
 |ts=>(cZ ts.length r).bind fun vs=>C3 E ts ((List.range ts.length).map fun j=>vs.getD j .bad) fun us=>k (.bu us)
def BV(fid:FuncId)(ts:List TypeId)(r:PV)(k:V→Option R):Option R:=
 match E.fnr fid with
 |some s=>(Zs s r).bind fun ls=>k (.pv (Jb s ((List.range s.n).map fun j=>ls.getD j .bad)).1)
 |none=>C4 E ts r k
def bL(f:Fr):Operand→V
 |.tmp t=>bif Nat.blt t E.fn.ntmps then f t else .top
 |.const c=>Hw c
 |.global g=>match E.aM g with|some cs=>.pv (.rp cs)|none=>.top
 |.func f=>bif Nat.blt f EC then .fn f []else .top
def fresh(draw:Bool)(site:Nat)(b:bR)(f:Fr)(m:Mem)(k:Fr→Mem→bG→Option R):Option R:=
 match m site with
 |none=>k f (aq m site b) [(true,site)]
 |some _=>if draw||b.names site then none else k (fi site f) (aq (bM site m) site b) [(true,site)]
def rF:V→Option (List V)
 |.pv (.agg cs)=>some (cs.map .pv)
 |.agg cs=>some cs
 |_=>none
def dh:Mem:=fun _=>none
def mX(op:BinOp)(t:TypeId)(a b:V)(k:PV→Option R):Option R:=
 match a,b with
 |.pv (.int q x),.pv (.int q' y)=>match op with
  |.shl=>if y<0 then none else k (.int q (q.wrap (x*2^(min y.toNat q.bits))))
  |.shr=>if y<0 then none else k (.int q (x.fdiv (2^(min y.toNat q.bits))))
  |op=>if q=q' then match op with
   |.add=>k (.int q (q.wrap (x+y)))
   |.sub=>k (.int q (q.wrap (x-y)))
   |.mul=>k (.int q (q.wrap (x*y)))
   |.quo=>if y=0 then none else k (.int q (q.wrap (x.tdiv y)))
   |.rem=>if y=0 then none else k (.int q (x.tmod y))
   |.and=>k (.int q (q.wrap (BitVec.ofInt q.bits x&&&BitVec.ofInt q.bits y).toNat))
   |.or=>k (.int q (q.wrap (BitVec.ofInt q.bits x|||BitVec.ofInt q.bits y).toNat))
   |.xor=>k (.int q (q.wrap (BitVec.ofInt q.bits x^^^BitVec.ofInt q.bits y).toNat))
   |.andNot=>k (.int q (q.wrap (BitVec.ofInt q.bits x&&& ~~~(BitVec.ofInt q.bits y)).toNat))
   |.eql=>k (.bool (x==y))
   |.neq=>k (.bool (x !=y))
   |.lss=>k (.bool (decide (x<y)))
   |.leq=>k (.bool (decide (x≤y)))
   |.gtr=>k (.bool (decide (x>y)))
   |.geq=>k (.bool (decide (x≥y)))
   |_=>none
   else none
 |.pv (.str x),.pv (.str y)=>match op with
  |.add=>if E.lp.room (x.length+y.length)=true then k (.str (x++y))else none
  |.eql=>k (.bool (x==y))
  |.neq=>k (.bool (!(x==y)))
  |.lss=>k (.bool (Op.bytesLess x y))
  |.leq=>k (.bool (Op.bytesLess x y||x==y))
  |.gtr=>k (.bool (!(Op.bytesLess x y||x==y)))
  |.geq=>k (.bool (!(Op.bytesLess x y)))
  |_=>none
 |.pv (.bool x),.pv (.bool y)=>match op,E.P.underlying t with
  |.eql,some .bool=>k (.bool (x==y))
  |.neq,some .bool=>k (.bool (!(x==y)))
  |_,_=>none
 |.pv .qU,.pv .qU=>match op,E.P.underlying t with
  |.eql,some (.pointer _)=>k (.bool true)
  |.neq,some (.pointer _)=>k (.bool false)
  |_,_=>none
 |.fn _ _,.pv .BR|.pv (.fn _ _),.pv .BR=>match op,E.P.underlying t with
  |.eql,some (.func _ _ _)=>k (.bool false)
  |.neq,some (.func _ _ _)=>k (.bool true)
  |_,_=>none
 |.pv (.rp _),.pv .qU|.op _ _,.pv .qU|.oe _ _ _,.pv .qU=>match op,E.P.underlying t with
  |.eql,some (.pointer _)=>k (.bool false)
  |.neq,some (.pointer _)=>k (.bool true)
  |_,_=>none
 |a,b=>if aF E.P t then match tg E.P t,rF a,rF b with
  |some ks,some as,some bs=>match qW (lj dh 1) as,qW (lj dh 1) bs with
   |some as,some bs=>if mP ks as=true∧mP ks bs=true then match op with
    |.eql=>k (.bool (dW as bs))
    |.neq=>k (.bool (!(dW as bs)))
    |_=>none
    else none
   |_,_=>none
  |_,_,_=>none
  else none
def EE:Operand→Bool
 |.const .nilIface=>true
 |_=>false
def V0(op:BinOp)(t:TypeId)(a:V)(k:PV→Option R):Option R:=
 match a with
 |.pv (.Y8 b)=>match op,E.P.underlying t with
  |.eql,some (.interface _)=>k (.bool (!b))
  |.neq,some (.interface _)=>k (.bool b)
  |_,_=>none
 |_=>none
def K4(op:BinOp)(t:TypeId)(y:Operand)(a b:V)(k:PV→Option R):Option R:=bif EE y then V0 E op t a k else mX E op t a b k
noncomputable def agree(a b:Option R):Option R:= @ite _ (a=b) (Classical.propDecidable _) a none
noncomputable def Og(op:BinOp)(t:TypeId)(es:List PV)(k:Bool→Option R):Option R:=
 match op,E.P.underlying t with
 |.eql,some (.slice _)=>if es.isEmpty=true then agree (k true) (k false)else k false
 |.neq,some (.slice _)=>if es.isEmpty=true then agree (k false) (k true)else k true
 |_,_=>none
def xun(op:UnOp)(a:V)(k:PV→Option R):Option R:=
 match op,a with
 |.not,.pv (.bool b)=>k (.bool !b)
 |.neg,.pv (.int q n)=>k (.int q (q.wrap (0-n)))
 |.xor,.pv (.int q n)=>k (.int q (q.wrap (BitVec.ofInt q.bits (if q.signed then-1 else q.max)^^^BitVec.ofInt q.bits n).toNat))
 |_,_=>none
def EF(s d:TypeId)(a:V)(k:PV→Option R):Option R:=
 match E.P.underlying s,E.P.underlying d,a with
 |some (.int q),some (.int q'),.pv (.int q'' n)=>if q''=q then(if q'=q then k (.int q n)else k (.int q' (q'.wrap n)))else none
 |some .string,some .string,.pv (.str s)=>k (.str s)
 |_,_,_=>none
def tA(s:Nat)(t:TypeId)(e:PV)(off:Nat)(k:V→Option R):Option R:=
 if aF E.P t then(if off+aV E.P t≤s then k (.pv (.agg (((aJ s e).drop off).take (aV E.P t))))else none)
 else match(aJ s e)[off]? with
  |some p=>gQ E t p fun p=>k (.pv p)
  |none=>none
def pvO:V→Option PV
 |.pv p=>some p
 |_=>none
def BW(t:TypeId)(s i off:Nat):Bool:=match E.P.underlying t with
 |some (.array _ e)=>Nat.beq (aV E.P e) s&&aF E.P e&&Nat.beq i 0&&Nat.beq off 0
 |_=>false
def qO(own:Bool)(t:TypeId)(a:V)(m:Mem)(k:V→bG→Option R):Option R:=
 match a with
 |.pv (.rp cs)=>
  if aF E.P t then(if aV E.P t≤cs.length then k (.pv (.agg (cs.take (aV E.P t)))) []else none)
  else(cs.head?).bind fun p=>gQ E t p fun p=>k (.pv p) []
 |.op id off=>match m id with
  |some (.box cs)=>
   if aF E.P t then(if off+aV E.P t≤cs.length then k (.agg ((cs.drop off).take (aV E.P t))) [(false,id)]else none)
   else match qW pvO cs with
    |some ps=>(ps[off]?).bind fun p=>gQ E t p fun p=>k (.pv p) [(false,id)]
    |none=>match cs[off]? with
     |some v=>AO E t v fun v=>k v [(false,id)]
     |none=>none
  |_=>none
 |.oe id i off=>match m id with
  |some (.arr s _ es)=>bif BW E t s i off then(if es.length*s=aV E.P t then k (.pv (.agg (eV s es))) [(false,id)]else none)else(es[i]?).bind fun e=>tA E s t e off fun v=>k v [(false,id)]
  |some (.ri s _ es)=>(es[i]?).bind fun e=>tA E s t e off fun v=>k v [(false,id)]
  |some (.nest _ _ es)=>if aF E.P t then none else(es[i]?).bind fun e=>
   if own then(match E.P.underlying t with
    |some (.slice et)=>(fh (aV E.P et) (cell e off)).bind fun _=>k (.wR id i off) [(false,id)]
    |_=>none)
   else gQ E t (cell e off) fun p=>k (.pv p) [(false,id)]
  |_=>none
 |.AM id i off s j off2=>match m id with
  |some (.nest _ _ es)=>(es[i]?).bind fun e=>(fh s (cell e off)).bind fun rs=>(rs[j]?).bind fun q=>tA E s t q off2 fun v=>k v [(false,id)]
  |_=>none
 |_=>none
def over{T:Type}:List T→List T→List T
 |[],cs=>cs
 |x::new,[]=>x::over new []
 |x::new,_::cs=>x::over new cs
def bT{T:Type}:List T→Nat→List T→List T
 |cs,0,new=>over new cs
 |[],_+1,new=>new
 |c::cs,off+1,new=>c::bT cs off new
theorem Jc{T:Type}:∀(new cs:List T),over new cs=new++cs.drop new.length
 |[],cs=>by rfl
 |x::new,[]=>by simp[over,Jc new []]
 |x::new,_::cs=>by simp[over,Jc new cs]
theorem dI{T:Type}:∀(cs:List T)(off:Nat)(new:List T),bT cs off new=cs.take off++new++cs.drop (off+new.length)
 |cs,0,new=>by cases cs<;>simp[bT,Jc]
 |[],_+1,new=>by simp[bT]
 |c::cs,off+1,new=>by rw[bT,dI cs off new,show off+1+new.length=(off+new.length)+1 by omega];simp
def wT(draw:Bool)(m:Mem)(n:Nat)(agg:Bool)(v:V):Option (PV×Mem):=if draw then(match kT dh n agg v with|some (p,_)=>some (p,m)|none=>none)else kT m n agg v
def setRow(s:Nat)(e:PV)(off:Nat)(p:PV):PV:=if s=1 then p else .agg ((aJ s e).set off p)
def setCells(s:Nat)(e:PV)(off n:Nat)(p:PV):PV:=if off=0∧n=s then p else .agg (bT (aJ s e) off p.cells)
def Oh(t:TypeId)(i off:Nat)(b:Option bR)(x:V):Option (Nat×TypeId×Nat×PV):=match b,x with
 |some (.arr s et es),.pv p=>bif BW E t s i off then some (s,et,es.length,p)else none
 |_,_=>none
def tB(draw:Bool)(t:TypeId)(a x:V)(m:Mem)(k:Mem→bG→Option R):Option R:=
 match a with
 |.op id off=>match m id with
  |some (.box cs)=>match toCells (aV E.P t) x with
   |some new=>if off+aV E.P t≤cs.length∧0<aV E.P t then k (aq m id (.box (bT cs off new))) [(true,id)]else none
   |none=>none
  |_=>none
 |.oe id i off=>match Oh E t i off (m id) x with
  |some (s,et,n,p)=>(asAgg (aV E.P t) p).bind fun _=>if n*s=aV E.P t∧0<aV E.P t then k (aq m id (.arr s et (fF s n p))) [(true,id)]else none
  |none=>match wT draw m (aV E.P t) (aF E.P t) x with
  |some (p,m)=>match m id with
   |some (.arr s et es)=>(es[i]?).bind fun e=>
    if off=0∧aV E.P t=s∧0<s then k (aq m id (.arr s et (es.set i p))) [(true,id)]
    else if off+aV E.P t≤s∧0<aV E.P t∧1<s then k (aq m id (.arr s et (es.set i (.agg (bT (aJ s e) off p.cells))))) [(true,id)]
    else none
   |some (.nest s et es)=>(es[i]?).bind fun e=>if off+aV E.P t≤s∧0<aV E.P t∧1<s then k (aq m id (.nest s et (es.set i (.agg (bT (aJ s e) off p.cells))))) [(true,id)]else none
   |_=>none
  |none=>none
 |.AM id i off s j off2=>match kT dh (aV E.P t) (aF E.P t) x with
  |some (p,_)=>match m id with
   |some (.nest s0 et es)=>(es[i]?).bind fun e=>(fh s (cell e off)).bind fun rs=>(rs[j]?).bind fun q=>
    if off2+aV E.P t≤s∧0<aV E.P t∧off<s0 then k (aq m id (.nest s0 et (es.set i (setRow s0 e off (.qV s (rs.set j (setCells s q off2 (aV E.P t) p))))))) [(true,id)]
    else none
   |_=>none
  |none=>none
 |_=>none
def G7(m:Mem)(x:V)(k:Nat→bG→Option R):Option R:=
 match x with
 |.pv (.rs _ es)=>k es.length []
 |.iK=>k 0 []
 |.fX id _ len=>match m id with
  |some (.arr _ _ _)=>k len [(false,id)]
  |some (.ri _ _ _)=>k len [(false,id)]
  |_=>none
 |.os id=>match m id with
  |some (.arr _ _ es)=>k es.length [(false,id)]
  |some (.ri _ _ es)=>k es.length [(false,id)]
  |some (.nest _ _ es)=>k es.length [(false,id)]
  |some (.box cs)=>if cs.length≤maxLen then k cs.length [(false,id)]else none
  |_=>none
 |_=>none
def TO(sz:Nat)(m:Mem)(x:V)(k:Nat→bG→Option R):Option R:=
 match x with
 |.wR id i off=>match m id with
  |some (.nest _ _ es)=>(es[i]?).bind fun e=>(fh sz (cell e off)).bind fun rs=>k rs.length [(false,id)]
  |_=>none
 |x=>G7 m x k
def V1(m:Mem)(x:V)(k:Nat→bG→Option R):Option R:=
 match x with
 |.om id=>match m id with
  |some (.map _ es)=>if es.length≤maxLen then k es.length [(false,id)]else none
  |_=>none
 |.pv .wJ=>k 0 []
 |_=>none
def K5(t:TypeId)(x:V)(m:Mem)(k:V→bG→Option R):Option R:=
 match E.P.underlying t with
 |some (.array n _)=>if n≤maxLen then k (.pv (.int .i64 n)) []else none
 |some .string=>match x with
  |.pv (.str s)=>k (.pv (.int .i64 s.length)) []
  |_=>none
 |some (.slice e)=>TO (aV E.P e) m x fun n ft=>k (.pv (.int .i64 n)) ft
 |some (.map _ _)=>V1 m x fun n ft=>k (.pv (.int .i64 n)) ft
 |_=>none
def eX(m:Mem)(sz:Nat):V→Option (List PV×bG)
 |.pv (.rs s es)=>if s=sz then some (es,[])else match es with|[]=>some ([],[])|_=>none
 |.iK=>some ([],[])
 |.os id=>match m id with
  |some (.arr s' _ es)=>if s'=sz then some (es,[(false,id)])else none
  |some (.ri s' _ es)=>if s'=sz then some (es,[(false,id)])else none
  |_=>none
 |.fX id lo len=>match m id with
  |some (.arr s' _ es)=>if s'=sz then some ((es.drop lo).take len,[(false,id)])else none
  |some (.ri s' _ es)=>if s'=sz then some ((es.drop lo).take len,[(false,id)])else none
  |_=>none
 |.wR id i off=>match m id with
  |some (.nest _ _ es)=>(es[i]?).bind fun e=>(fh sz (cell e off)).bind fun rs=>some (rs,[(false,id)])
  |_=>none
 |_=>none
def Jd(m:Mem)(sz:Nat)(x:V)(k:List PV→bG→Option R):Option R:=
 match x with
 |.wR id i off=>match m id with
  |some (.nest _ _ es)=>(es[i]?).bind fun e=>(fh sz (cell e off)).bind fun rs=>k rs [(false,id)]
  |_=>none
 |x=>match eX m sz x with
  |some (es,ft)=>k es ft
  |none=>none
def BX:List PV→Option Bytes
 |[]=>some []
 |.int .u8 n::r=>(BX r).map fun b=>UInt8.ofNat n.toNat::b
 |_=>none
def BZ(s d:TypeId)(a:V)(m:Mem)(k:PV→bG→Option R):Option R:=
 match E.P.underlying s,E.P.underlying d with
 |some (.slice e),some .string=>match E.P.underlying e,eX m 1 a with
  |some (.int .u8),some (es,ft)=>(BX es).bind fun b=>k (.str b) ft
  |_,_=>none
 |_,_=>EF E s d a fun p=>k p []
def ae(i:Int)(n:Nat):Prop:=0≤i∧i<(n:Int)
instance (i:Int) (n:Nat):Decidable (ae i n):=inferInstanceAs (Decidable (_∧_))
def dp(t:TypeId)(x ix:V)(m:Mem)(k:V→bG→Option R):Option R:=
 match ix with
 |.pv (.int _ i)=>match E.P.underlying t,x with
  |some (.slice e),.pv (.rs s es)=>if s=aV E.P e∧0<s then(aD es i).bind fun p=>k (.pv (.rp (aJ s p))) []else none
  |some (.slice e),.os id=>match m id with
   |some (.arr s _ es)=>if s=aV E.P e∧0<s then(if ae i es.length then k (.oe id i.toNat 0) [(false,id)]else none)else none
   |some (.ri s _ es)=>if s=aV E.P e∧0<s then(if ae i es.length then k (.oe id i.toNat 0) [(false,id)]else none)else none
   |some (.nest s _ es)=>if s=aV E.P e∧0<s then(if ae i es.length then k (.oe id i.toNat 0) [(false,id)]else none)else none
   |some (.box cs)=>if aV E.P e=1∧ae i cs.length then k (.op id i.toNat) [(false,id)]else none
   |_=>none
  |some (.slice e),.wR id i0 off=>match m id with
   |some (.nest _ _ es)=>if 0<aV E.P e then(es[i0]?).bind fun e0=>(fh (aV E.P e) (cell e0 off)).bind fun rs=>if ae i rs.length then k (.AM id i0 off (aV E.P e) i.toNat 0) [(false,id)]else none else none
   |_=>none
  |some (.slice e),.fX id lo len=>match m id with
   |some (.arr s _ _)=>if s=aV E.P e∧0<s then(if ae i len then k (.oe id (lo+i.toNat) 0) [(false,id)]else none)else none
   |some (.ri s _ _)=>if s=aV E.P e∧0<s then(if ae i len then k (.oe id (lo+i.toNat) 0) [(false,id)]else none)else none
   |_=>none
  |some (.array n e),.op id off=>if ae i n∧0<aV E.P e then k (.op id (off+i.toNat*aV E.P e)) []else none
  |some (.array n e),.pv (.rp cs)=>if ae i n∧0<aV E.P e then k (.pv (.rp (cs.drop (i.toNat*aV E.P e)))) []else none
  |some (.array n e),.oe id j off=>if ae i n∧0<aV E.P e then(match(match m id with|some (.arr s _ _)=>Nat.beq (aV E.P e) s|_=>false)with
   |true=>k (.oe id (i.toNat+j) off) [(false,id)]
   |false=>k (.oe id j (off+i.toNat*aV E.P e)) [(false,id)])else none
  |_,_=>none
 |_=>none
def AP(s:TypeId)(j:Nat):Option (Nat×TypeId):=
 match E.P.underlying s with
 |some (.struct fs)=>match fs[j]? with
  |some f=>if aV E.P f.type=0 then none else some (f.offset,f.type)
  |none=>none
 |_=>none
def kr(s:TypeId)(x:V)(j:Nat)(k:V→Option R):Option R:=
 match AP E s j with
 |some (o,_)=>match x with
  |.pv (.rp cs)=>k (.pv (.rp (cs.drop o)))
  |.op id off=>k (.op id (off+o))
  |.oe id i off=>k (.oe id i (off+o))
  |.AM id i off s j off2=>k (.AM id i off s j (off2+o))
  |_=>none
 |none=>none
def EG(t:TypeId)(cs:List V)(off:Nat)(k:V→Option R):Option R:=
 if aF E.P t then(if off+aV E.P t≤cs.length then k (.agg ((cs.drop off).take (aV E.P t)))else none)
 else match cs[off]? with
  |some v=>AO E t v k
  |none=>none
def EH(s:TypeId)(x:V)(j:Nat)(k:V→Option R):Option R:=
 match AP E s j,rF x with
 |some (o,t),some cs=>EG E t cs o k
 |_,_=>none
def B0(t:TypeId)(x ix:V)(k:V→Option R):Option R:=
 match ix with
 |.pv (.int _ i)=>match E.P.underlying t,x with
  |some .string,.pv (.str s)=>(TN s i).bind fun b=>k (.pv (.int .u8 b.toNat))
  |some (.array n et),x=>match rF x with
   |some cs=>if ae i n∧0<aV E.P et then EG E et cs (i.toNat*aV E.P et) k else none
   |none=>none
  |_,_=>none
 |_=>none
def j5(d:Int):Option V→Option Int
 |none=>some d
 |some (.pv (.int _ i))=>some i
 |_=>none
def vj(t:TypeId)(x:V)(lo hi mx:Option V)(m:Mem)(k:V→bG→Option R):Option R:=
 match mx with
 |some mx=>match E.P.underlying t,x with
  |some (.slice e),.os id=>match m id with
   |some (.arr s _ es)=>match lo,hi,mx with
    |none,some (.pv (.int _ h)),.pv (.int _ c)=>if 0≤h∧h≤c∧c≤(es.length:Int)∧s=aV E.P e then k (.fX id 0 h.toNat) [(false,id)]else none
    |_,_,_=>none
   |_=>none
  |_,_=>none
 |none=>match E.P.underlying t,x with
  |some .string,.pv (.str s)=>match j5 0 lo,j5 s.length hi with
   |some l,some h=>if 0≤l∧l≤h∧h≤(s.length:Int)then k (.pv (.str ((s.take h.toNat).drop l.toNat))) []else none
   |_,_=>none
  |some (.slice e),.pv (.rs sz es)=>match j5 0 lo,j5 es.length hi with
   |some l,some h=>if 0≤l∧l≤h∧h≤(es.length:Int)∧sz=aV E.P e∧aV E.P e≠0 then k (.pv (.rs sz ((es.take h.toNat).drop l.toNat))) []else none
   |_,_=>none
  |some (.slice e),.os id=>match m id with
   |some (.arr s _ es)=>match j5 0 lo,j5 es.length hi with
    |some l,some h=>if 0≤l∧l≤h∧h≤(es.length:Int)∧s=aV E.P e then k (.fX id l.toNat (h.toNat-l.toNat)) [(false,id)]else none
    |_,_=>none
   |some (.ri s _ es)=>match j5 0 lo,j5 es.length hi with
    |some l,some h=>if 0≤l∧l≤h∧h≤(es.length:Int)∧s=aV E.P e then k (.fX id l.toNat (h.toNat-l.toNat)) [(false,id)]else none
    |_,_=>none
   |_=>none
  |_,_=>none
def placesOf(fs:List Field)(j:Nat):Option (Nat×Nat):=(fs[j]?).map fun f=>(f.offset,aV E.P f.type)
def Hx(place:Nat→Option (Nat×Nat))(cs:List V):List (Nat×V)→Option (List V)
 |[]=>some cs
 |(i,v)::rest=>match place i with
  |some (off,size)=>match toCells size v with
   |some new=>if off+size≤cs.length then Hx place (bT cs off new) rest else none
   |none=>none
  |none=>none
def dq(t:TypeId):Option (List V):=match zeroV E.P t with|some v=>toCells (aV E.P t) v|none=>none
def B1(t:TypeId)(parts:List (Nat×V))(k:V→Option R):Option R:=
 match dq E t,E.P.underlying t with
 |some z,some (.struct fs)=>if fs.toList.all (fun f=>(E.P.info? f.type).isSome)then match Hx (placesOf E fs.toList) z parts with
  |some cs=>k (.agg cs)
  |none=>none
  else none
 |some z,some (.array _ e)=>if 0<aV E.P e then match Hx (fun i=>some (i*aV E.P e,aV E.P e)) z parts with
  |some cs=>k (.agg cs)
  |none=>none
  else none
 |_,_=>none
def fp(m:Mem)(n:Nat)(agg:Bool):Nat→List (Nat×V)→Option (List PV×Mem)
 |_,[]=>some ([],m)
 |i,(j,v)::r=>if i=j then match kT m n agg v with
  |some (p,m)=>match fp m n agg (i+1) r with
   |some (ps,m)=>some (p::ps,m)
   |none=>none
  |none=>none
  else none
def EI:Nat→List (Nat×V)→Option (List V)
 |_,[]=>some []
 |i,(j,v)::r=>if i=j then match toCells 1 v with
  |some cs=>match EI (i+1) r with
   |some us=>some (cs++us)
   |none=>none
  |none=>none
  else none
def Sf(t:TypeId):Bool:=match E.P.underlying t with|some (.func _ _ _)=>true|_=>false
def B2(t:TypeId):Option PV:=match zeroV E.P t with
 |some v=>match lj dh 2 v with
  |some p=>if aF E.P t=p.isAgg∧p.cells.length=aV E.P t∧p.plain=true then some p else none
  |none=>none
 |none=>none
def keyOf(kt:TypeId)(v:V):Option PV:=
 match tg E.P kt with
 |some ks=>
  if aF E.P kt then(match rF v with
   |some cs=>match qW (lj dh 1) cs with
    |some ps=>if mP ks ps then some (.agg ps)else none
    |none=>none
   |none=>none)
  else match v with
   |.pv p=>if mP ks [p]then some p else none
   |_=>none
 |none=>none
def K6(site:Nat)(t:TypeId)(x ix:V)(m:Mem)(k:V→Mem→bG→Option R):Option R:=
 match E.P.underlying t with
 |some (.map kt et)=>match E.P.underlying et with
  |some (.slice e)=>match x,zeroV E.P et with
   |.om id,some .iK=>match m id,m site with
    |some (.fv wL e' es),none=>if wL=kt∧e'=e∧0<aV E.P e then(keyOf E kt ix).bind fun key=>(K2 (aV E.P e) key es).bind fun rs=>k (.os site) (aq (aq m id (.fv kt e (tf key es))) site (.arr (aV E.P e) e rs)) [(true,id),(true,site)]else none
    |_,_=>none
   |_,_=>none
  |_=>none
 |_=>none
def vk(t:TypeId)(x ix:V)(ok:Bool)(m:Mem)(k:V→bG→Option R):Option R:=
 match E.P.underlying t with
 |some (.map kt et)=>match B2 E et with
  |some z=>match x with
   |.om id=>match m id with
    |some (.map wL es)=>if wL=kt then(keyOf E kt ix).bind fun key=>gQ E et (dS key z es) fun v=>k (if ok then .bu [.pv v,.pv (.bool (wK key es))]else .pv v) [(false,id)]else none
    |_=>none
   |.pv p=>dZ kt p ((keyOf E kt ix).bind fun _=>k (if ok then .bu [.pv z,.pv (.bool false)]else .pv z) []) fun ks vs=>(keyOf E kt ix).bind fun key=>gQ E et (dS key z (ks.zip vs)) fun v=>k (if ok then .bu [.pv v,.pv (.bool (wK key (ks.zip vs)))]else .pv v) []
   |_=>none
  |none=>none
 |_=>none
def AQ(draw:Bool)(m:Mem)(v:V):Option (PV×Mem):=if draw then(match vh dh v with|some (p,_)=>some (p,m)|none=>none)else vh m v
def oF(draw:Bool)(t:TypeId)(x key val:V)(m:Mem)(k:Mem→bG→Option R):Option R:=
 match E.P.underlying t with
 |some (.map kt _)=>match x with
  |.om id=>match AQ draw m val with
   |some (v,m)=>match m id with
    |some (.map wL es)=>if wL=kt then(keyOf E kt key).bind fun key=>k (aq m id (.map kt (fg key v es))) [(true,id)]else none
    |_=>none
   |none=>none
  |_=>none
 |_=>none
def af:Nat:=140737488355328
def lN(m:Mem):Nat→List V→Option (List PV×Option (Nat×Nat))
 |_,[]=>some ([],none)
 |j,.os id::r=>match m id with
  |some (.arr s _ es)=>match lN m (j+1) r with
   |some (ps,none)=>some (.qV s es::ps,some (j,id))
   |_=>none
  |_=>none
 |j,v::r=>match lj dh 1 v with
  |some p=>match lN m (j+1) r with
   |some (ps,t)=>some (p::ps,t)
   |none=>none
  |none=>none
def elemOf(agg:Bool)(ps:List PV):Option PV:=if agg then some (.agg ps)else match ps with|[p]=>some p|_=>none
inductive Sp where
 |st (id i off s:Nat) (et:TypeId) (es ps:List PV) (id2:Nat)
 |app (id s:Nat) (et:TypeId) (es new:List PV) (src:Option Nat) (rd:bG)
 |lit (s:Nat) (et:TypeId) (p:PV) (id2:Nat)
 |upd (id:Nat) (kt e:TypeId) (es:List (PV×PV)) (key:PV) (s:Nat) (rs:List PV) (id2:Nat)
def zJ(site:Nat)(o:Oper)(f:Fr)(m:Mem):Option Sp:=
 match o.op with
 |.store t a x=>match bL E f a with
  |.oe id i off=>match m id with
   |some (.nest s et es)=>match toCells (aV E.P t) (bL E f x)with
    |some cs=>match lN m 0 cs with
     |some (ps,some (_,id2))=>if off+aV E.P t≤s&&0<aV E.P t&& !(Nat.beq id2 id)then some (.st id i off s et es ps id2)else none
     |_=>none
    |none=>none
   |_=>none
  |_=>none
 |.buildSlice t len parts=>match E.P.underlying t,parts.toList.map fun(i,x)=>(i,bL E f x)with
  |some (.slice e),[(0,v)]=>match toCells (aV E.P e) v with
   |some cs=>match lN m 0 cs,m site with
    |some (ps,some (_,id2)),none=>match elemOf (aF E.P e) ps with
     |some p=>if Nat.beq len 1&&0<aV E.P e&&aV E.P e≤16777216&&(dq E e).isSome then some (.lit (aV E.P e) e p id2)else none
     |none=>none
    |_,_=>none
   |none=>none
  |_,_=>none
 |.call c=>match c.callee,c.args.toList.map (bL E f),c.argTypes.toList with
  |.builtin .append,[.os id,x],[t,t']=>match E.P.underlying t,m id with
   |some (.slice e),some (.nest s et es)=>if et=e&&s=aV E.P e&&decide (t'=t)&&(dq E e).isSome&&0<aV E.P e&&0<G6 E.P e then(match x with
    |.os sZ=>match m sZ with
     |some (.nest s' GZ new)=>if Nat.beq s' s&&decide (GZ=et)&& !(Nat.beq sZ id)then some (.app id s et es new (some sZ) [])else none
     |_=>match eX m s x with
      |some (new,rd)=>if x.has id then none else some (.app id s et es new none rd)
      |none=>none
    |_=>match eX m s x with
     |some (new,rd)=>if x.has id then none else some (.app id s et es new none rd)
     |none=>none)else none
   |_,_=>none
  |_,_,_=>none
 |.mapUpdate t x key v=>match E.P.underlying t,bL E f x,bL E f v with
  |some (.map kt _),.om id,.os id2=>match m id,m id2,keyOf E kt (bL E f key)with
   |some (.fv wL e es),some (.arr s e' rs),some key=>if decide (wL=kt)&&decide (e'=e)&&Nat.beq s (aV E.P e)then some (.upd id kt e es key s rs id2)else none
   |_,_,_=>none
  |_,_,_=>none
 |_=>none
def Sp.info(site:Nat):Sp→Kl×bG
 |.st id _ _ _ _ _ _ id2=>([(true,id2),(false,id)],[(true,id),(true,id2)])
 |.app id _ _ _ _ (some id2) _=>([(true,id2),(true,id)],[(true,id),(true,id2)])
 |.app id _ _ _ _ none rd=>([(true,id)],(true,id)::rd)
 |.lit _ _ _ id2=>([(true,id2)],[(true,site),(true,id2)])
 |.upd id _ _ _ _ _ _ id2=>([(true,id2),(false,id)],[(true,id),(true,id2)])
def xsp(site:Nat)(sp:Sp)(f:Fr)(m:Mem)(k:V→Fr→Mem→bG→Option R):Option R:=
 match sp with
 |.st id i off s et es ps id2=>(es[i]?).bind fun e=>k .top (kf [(true,id2),(false,id)] f) (uf [(id,.nest s et (es.set i (if s=1 then ps.headD .bad else .agg (bT (aJ s e) off ps))))] (km [(true,id2),(false,id)] m)) [(true,id),(true,id2)]
 |.app id s et es new src rd=>if(es++new).length*G6 E.P et≤af then k (.os id) (kf (Sp.app id s et es new src rd|>.info site).1 f) (uf [(id,.nest s et (es++new))] (km (Sp.app id s et es new src rd|>.info site).1 m)) (Sp.app id s et es new src rd|>.info site).2 else none
 |.lit s et p id2=>k (.os site) (kf [(true,id2)] f) (uf [(site,.nest s et [p])] (km [(true,id2)] m)) [(true,site),(true,id2)]
 |.upd id kt e es key s rs id2=>k .top (kf [(true,id2),(false,id)] f) (uf [(id,.fv kt e (fg key (.qV s rs) es))] (km [(true,id2),(false,id)] m)) [(true,id),(true,id2)]
def AR(draw:Bool)(site:Nat)(t t':TypeId)(s x:V)(f:Fr)(m:Mem)(k:V→Fr→Mem→Option R):Option R:=
 if draw|| !(decide (t'=t))then none else
 match E.P.underlying t with
 |some (.slice e)=>if(dq E e).isNone then none else match eX m (aV E.P e) x with
  |some (new,_)=>match s with
   |.iK=>if new.length*G6 E.P e≤af∧0<G6 E.P e∧0<aV E.P e then fresh draw site (.arr (aV E.P e) e new) f m (fun f m _=>k (.os site) f m)else none
   |.os id=>match m id with
    |some (.arr sz et es)=>if et=e∧sz=aV E.P e∧x.has id=false then(if(es++new).length*G6 E.P e≤af∧0<G6 E.P e then fresh draw id (.arr sz e (es++new)) (fi id f) (bq (bM id m) id) (fun f m _=>k (.os id) f m)else none)else none
    |_=>none
   |_=>none
  |none=>none
 |_=>none
def K7(t:TypeId)(d x:V)(m:Mem)(k:V→Mem→bG→Option R):Option R:=
 match E.P.underlying t with
 |some (.slice e)=>match d with
  |.os id=>match m id with
   |some (.arr sz et es)=>if sz=aV E.P e∧x.has id=false then Jd m sz x fun new ft=>k (.pv (.int .i64 (min new.length es.length:Nat))) (aq m id (.arr sz et (new.take es.length++es.drop new.length))) ((true,id)::ft)else none
   |_=>none
  |_=>none
 |_=>none
def EJ(t:TypeId)(x:V)(m:Mem)(k:V→Mem→bG→Option R):Option R:=
 match E.P.underlying t with
 |some (.slice e)=>match x,B2 E e with
  |.fX id lo len,some z=>match m id with
   |some (.arr sz et es)=>if sz=aV E.P e∧et=e∧lo+len≤es.length∧0<aV E.P e then k .top (aq m id (.arr sz et (es.take lo++(List.replicate len z++es.drop (lo+len))))) [(true,id)]else none
   |_=>none
  |_,_=>none
 |_=>none
def rG(draw:Bool)(site:Nat)(t:TypeId)(len cap:V)(f:Fr)(m:Mem)(k:V→Fr→Mem→bG→Option R):Option R:=
 match E.P.underlying t,len,cap with
 |some (.slice e),.pv (.int _ n),.pv (.int _ c)=>match B2 E e with
  |some z=>if 0≤n∧n≤c∧c.toNat*G6 E.P e≤af∧0<G6 E.P e∧0<aV E.P e then fresh draw site (.arr (aV E.P e) e (List.replicate n.toNat z)) f m (fun f m ft=>k (.os site) f m ft)else none
  |none=>none
 |_,_,_=>none
def K8(a b:V)(k:PV→Option R):Option R:=match a,b with
 |.pv (.int q x),.pv (.int q' y)=>if q=q' then k (.int q (if y<x then y else x))else none
 |_,_=>none
def C5(a b:V)(k:PV→Option R):Option R:=match a,b with
 |.pv (.int q x),.pv (.int q' y)=>if q=q' then k (.int q (if y>x then y else x))else none
 |_,_=>none
def K9(a b c d:V)(k:PV→Option R):Option R:=C5 a b fun p=>C5 (.pv p) c fun p=>C5 (.pv p) d k
def vl(t:TypeId):Bool:=match E.P.underlying t with|some (.int _)|some .bool|some .string=>true|_=>false
def jo(m:Mem):List V→Option (List PV×Mem)
 |[]=>some ([],m)
 |v::r=>match vh m v with
  |some (p,m)=>match jo m r with
   |some (ps,m)=>some (p::ps,m)
   |none=>none
  |none=>none
def Hy:PV→PV
 |.int q n=>.int q n
 |.bool b=>.bool b
 |.str s=>.str s
 |_=>.bad
def wz(draw:Bool)(site:Nat)(fid:FuncId)(args:List V)(f:Fr)(m:Mem)(k:V→Fr→Mem→bG→Option R):Option R:=
 match E.ctx fid with
 |some M=>match E.P.funcs[fid]? with
  |some fn=>
   if fn.resultTypes.toList.all (vl E)then(match qW (lj m eW) args with
     |some ps=>(M ps).bind fun r=>C4 E fn.resultTypes.toList r fun v=>k v f m ((jn (c8 m eW) args).map fun i=>(false,i))
     |none=>none)
   else(match jo (if draw then dh else m) args with
     |some (ps,m')=>(M ps).bind fun r=>BV E fid fn.resultTypes.toList r fun v=>k v f (if draw then m else m') (if draw then[]else[(true,0)])
     |none=>none)
  |none=>none
 |none=>match E.own fid with
  |some M=>match E.P.funcs[fid]? with
   |some fn=>match fn.resultTypes.toList with
    |[t]=>match E.P.underlying t with
     |some (.slice e)=>if vl E e=true∧aV E.P e=1 then(match qW (lj m eW) args with
      |some ps=>(M ps).bind fun r=>(aP (aV E.P e) r).bind fun es=>fresh draw site (.arr (aV E.P e) e (es.map Hy)) f m fun f m1 ft=>k (.os site) f m1 (ft++(jn (c8 m eW) args).map fun i=>(false,i))
      |none=>none)
      else match jo (if draw then dh else m) args with
      |some (ps,m')=>(M ps).bind fun r=>(aP (aV E.P e) r).bind fun es=>fresh draw site (.arr (aV E.P e) e es) f (if draw then m else m') fun f m ft=>k (.os site) f m ft
      |none=>none
     |_=>none
    |_=>none
   |none=>none
  |none=>if draw then none else E.inl R fid (site*4096+fid) args f m fun v f m=>k v f m [(true,0)]
def V2(f:TypeId→Option (List TypeId)):List Field→Option (List TypeId)
 |[]=>some []
 |x::r=>(f x.type).bind fun a=>(V2 f r).bind fun b=>some (a++b)
def V3(l:List TypeId):Nat→List TypeId
 |0=>[]
 |n+1=>l++V3 l n
def EK(P:Program):Nat→TypeId→Option (List TypeId)
 |0,_=>none
 |d+1,t=>match P.underlying t with
  |some (.struct fs)=>V2 (EK P d) fs.toList
  |some (.array n e)=>(EK P d e).bind fun l=>some (V3 l n)
  |some _=>some [t]
  |none=>none
def wA(n:Nat)(args:List V)(f:Fr):Fr:=fun t=>bif Nat.blt t n then args.getD t .top else f (t-n)
def wU(n:Nat)(f:Fr):Fr:=fun t=>f (t+n)
def V4:V→Bool
 |.iK=>true
 |_=>false
def uk(site j:Nat):Nat:=site+(j+1)*1606938044258990275541962092341162602522202993782792835301376
def yA(E:Env){R:Type}(site:Nat):List TypeId→Nat→Fr→Mem→(Fr→Mem→Option R)→Option R
 |[],_,F,m,k=>k F m
 |t::ts,j,F,m,k=>match F j with
  |.iK=>match E.P.underlying t with
   |some (.slice e)=>if 0<aV E.P e then fresh false (uk site j) (.arr (aV E.P e) e []) F m fun F m _=>yA E site ts (j+1) (gO F j (.os (uk site j))) m k else none
   |_=>none
  |_=>yA E site ts (j+1) F m k
def adG(E:Env)(t:TypeId):Bool:=match E.P.underlying t with|some (.slice _)=>true|_=>false
def Je(f:Fr):Option Operand→Bool
 |none=>true
 |some x=>match bL E f x with|.pv (.int _ _)=>true|_=>false
noncomputable def ti(n:Nat)(g:Nat→Option R):Option R:= @dite _ (∃r,∀i,i<n→g i=some r) (Classical.propDecidable _) (fun h=>some (Classical.choose h)) fun _=>none
def Oi(site:Nat)(t:TypeId)(x:V)(f:Fr)(m:Mem)(k:V→Fr→Mem→Option R):Option R:=
 match E.P.underlying t with
 |some (.map kt _)=>match x with
  |.om id=>match m id with
   |some (.map wL es)=>if wL=kt then fresh false site (.iter t es none) (fi id f) (bq (bM id m) id) fun f m _=>k (.it site) f m else none
   |_=>none
  |_=>none
 |_=>none
noncomputable def V5(x:V)(f:Fr)(m:Mem)(k:V→Fr→Mem→Option R):Option R:=
 match x with
 |.it id=>match m id with
  |some (.iter t es _)=>match E.P.underlying t with
   |some (.map kt et)=>if es.isEmpty=true then k (.bu [.pv (.bool false)]) f m else ti es.length fun i=>(es[i]?).bind fun e=>gQ E kt e.1 fun a=>gQ E et e.2 fun b=>k (.bu [.pv (.bool true),.pv a,.pv b]) f (aq m id (.iter t (es.eraseIdx i) (some (a,b))))
   |_=>none
  |_=>none
 |_=>none
def Oj(x:V)(m:Mem)(k:V→Mem→Option R):Option R:=
 match x with
 |.it id=>match m id with
  |some (.iter t es (some (a,b)))=>k (.bu [.pv a,.pv b]) (aq m id (.iter t es none))
  |_=>none
 |_=>none
def Ol:Op→Bool
 |.range .. =>true
 |.next .. =>true
 |.entry .. =>true
 |_=>false
def wB(g:FuncId):FuncId:=bif Nat.blt g EC then g else g-EC
def zK(g:FuncId)(caps args:List V):List V:=bif Nat.blt g EC then args++caps else caps++args
noncomputable def cT(draw:Bool)(site:Nat)(o:Oper)(f:Fr)(m:Mem)(k:V→Fr→Mem→bG→Option R):Option R:=
 match o.op with
 |.move x=>k (bL E f x) f m []
 |.assign x=>match bL E f x with
  |.iK=>match E.P.underlying o.type with
   |some (.slice e)=>if 0<aV E.P e then fresh draw site (.arr (aV E.P e) e []) f m fun f m ft=>k (.os site) f m ft else none
   |_=>k .iK f m []
  |v=>k v f m []
 |.pick c a b=>match bL E f c with
  |.pv (.bool t)=>if t then k (bL E f a) f m []else k (bL E f b) f m []
  |_=>none
 |.alloc t=>match dq E t with
  |some cs=>bif E.BU site then(match E.P.underlying t,qW pvO cs with
   |some (.array n e),some ps=>if aF E.P e=true∧n*aV E.P e=aV E.P t∧0<aV E.P e∧n≤16777216 then fresh draw site (.arr (aV E.P e) e (fF (aV E.P e) n (.agg ps))) f m fun f m ft=>k (.oe site 0 0) f m ft else none
   |_,_=>none)
   else if !draw&&adG E t then yA E site [t] 0 (wA cs.length cs f) m fun F m=>fresh false site (.box ((List.range cs.length).map F)) (wU cs.length F) m fun f m ft=>k (.op site 0) f m ft
   else fresh draw site (.box cs) f m fun f m ft=>k (.op site 0) f m ft
  |none=>none
 |.box t x=>match toCells (aV E.P t) (bL E f x)with
  |some cs=>if !draw&&cs.any V4 then(match EK E.P 8 t with
   |some ts=>if ts.length=cs.length then yA E site ts 0 (wA cs.length cs f) m fun F m=>fresh false site (.box ((List.range cs.length).map F)) (wU cs.length F) m fun f m ft=>k (.op site 0) f m ft else none
   |none=>none)else fresh draw site (.box cs) f m fun f m ft=>k (.op site 0) f m ft
  |none=>none
 |.build t parts=>B1 E t (parts.toList.map fun(i,x)=>(i,bL E f x)) fun v=>k v f m []
 |.buildSlice t len parts=>match E.P.underlying t with
  |some (.slice e)=>if Sf E e then(match EI 0 (parts.toList.map fun(i,x)=>(i,bL E f x))with
   |some cs=>if parts.size=len∧aV E.P e=1∧len≤16777216∧(dq E e).isSome=true then fresh draw site (.box cs) f m fun f m ft=>k (.os site) f m ft else none
   |none=>none)
   else if E.BU (site+1000000000000000000000000000000)then(match fp dh (aV E.P e) (aF E.P e) 0 (parts.toList.map fun(i,x)=>(i,bL E f x))with
   |some (es,_)=>if es.length=len∧0<aV E.P e∧len*aV E.P e≤16777216∧(dq E e).isSome=true then k (.pv (.rs (aV E.P e) es)) f m []else none
   |none=>none)
   else match fp (if draw then dh else m) (aV E.P e) (aF E.P e) 0 (parts.toList.map fun(i,x)=>(i,bL E f x))with
   |some (es,m1)=>if es.length=len∧0<aV E.P e∧len*aV E.P e≤16777216∧(dq E e).isSome=true then fresh draw site (.arr (aV E.P e) e es) f (if draw then m else m1) fun f m ft=>k (.os site) f m ft else none
   |none=>none
  |_=>none
 |.load t a=>qO E (E.BU site) t (bL E f a) m fun v ft=>k v f m ft
 |.store t a x=>tB E draw t (bL E f a) (bL E f x) m fun m ft=>k .top f m ft
 |.nilCheck x=>match bL E f x with
  |.pv (.rp cs)=>k (.pv (.rp cs)) f m []
  |.op id off=>k (.op id off) f m []
  |.oe id i off=>k (.oe id i off) f m []
  |.AM id i off s j off2=>k (.AM id i off s j off2) f m []
  |.fn g cs=>k (.fn g cs) f m []
  |.pv (.fn g cs)=>k (.pv (.fn g cs)) f m []
  |_=>none
 |.binOp op t x y _=>match bL E f x,bL E f y with
  |.pv (.rs _ es),.iK=>if draw then none else Og E op t es fun b=>k (.pv (.bool b)) f m [(true,0)]
  |a,b=>K4 E op t y a b fun p=>k (.pv p) f m []
 |.unOp op _ x=>xun op (bL E f x) fun p=>k (.pv p) f m []
 |.convert s d x=>BZ E s d (bL E f x) m fun p ft=>k (.pv p) f m ft
 |.makeFunc (.func g) first caps=>bif Nat.blt g EC then(if first.isEmpty then k (.fn g (caps.toList.map (bL E f))) f m []else if caps.isEmpty then k (.fn (g+EC) (first.toList.map (bL E f))) f m []else none)else none
 |.makeMap t hint=>if Je E f hint=true then match E.P.underlying t with
  |some (.map kt et)=>if(tg E.P kt).isSome then(if E.BU site then(match E.P.underlying et with
   |some (.slice e)=>fresh draw site (.fv kt e []) f m fun f m ft=>k (.om site) f m ft
   |_=>none)
   else fresh draw site (.map kt []) f m fun f m ft=>k (.om site) f m ft)else none
  |_=>none
  else none
 |.makeSlice t l c=>rG E draw site t (bL E f l) (bL E f c) f m k
 |.slice t x lo hi mx=>vj E t (bL E f x) (lo.map (bL E f)) (hi.map (bL E f)) (mx.map (bL E f)) m fun v ft=>k v f m ft
 |.fieldAddr s x j=>kr E s (bL E f x) j fun v=>k v f m []
 |.field s x j=>EH E s (bL E f x) j fun v=>k v f m []
 |.indexAddr t x ix=>dp E t (bL E f x) (bL E f ix) m fun v ft=>k v f m ft
 |.index t x ix=>B0 E t (bL E f x) (bL E f ix) fun v=>k v f m []
 |.lookup t x ix ok=>if E.BU site&& !ok then K6 E site t (bL E f x) (bL E f ix) m fun v m ft=>k v f m ft else vk E t (bL E f x) (bL E f ix) ok m fun v ft=>k v f m ft
 |.mapUpdate t x key v=>oF E draw t (bL E f x) (bL E f key) (bL E f v) m fun m ft=>k .top f m ft
 |.insert t x key v=>oF E draw t (bL E f x) (bL E f key) (bL E f v) m fun m ft=>k .top f m ft
 |.range t x=>if draw then none else Oi E site t (bL E f x) f m fun v f m=>k v f m [(true,0)]
 |.next x s=>if draw||s then none else V5 E (bL E f x) f m fun v f m=>k v f m [(true,0)]
 |.entry x=>if draw then none else Oj (bL E f x) m fun v m=>k v f m [(true,0)]
 |.extract t i=>match bL E f t with
  |.bu vs=>match vs[i]? with
   |some v=>k v f m []
   |none=>none
  |_=>none
 |.call c=>match c.callee,c.args.toList.map (bL E f)with
  |.builtin .len,[x]=>match c.argTypes.toList with
   |[t]=>K5 E t x m fun v ft=>k v f m ft
   |_=>none
  |.builtin .append,[s,x]=>match c.argTypes.toList with
   |[t,t']=>AR E draw site t t' s x f m fun v f m=>k v f m [(true,0)]
   |_=>none
  |.builtin .copy,[d,x]=>match c.argTypes.toList with
   |t::_=>K7 E t d x m fun v m ft=>k v f m ft
   |_=>none
  |.builtin .clear,[x]=>match c.argTypes.toList with
   |t::_=>EJ E t x m fun v m ft=>k v f m ft
   |_=>none
  |.builtin .min,[a,b]=>K8 a b fun p=>k (.pv p) f m []
  |.builtin .max,[a,b]=>C5 a b fun p=>k (.pv p) f m []
  |.builtin .max,[a,b,c,d]=>K9 a b c d fun p=>k (.pv p) f m []
  |.value (.func g),args=>wz E draw site g args f m k
  |.value (.tmp t),args=>match bL E f (.tmp t)with
   |.fn g caps=>wz E draw site (wB g) (zK g caps args) f m k
   |.pv (.fn g caps)=>wz E draw site (wB g) (zK g (caps.map .pv) args) f m k
   |.yl id=>if draw then none else E.yl R E.fn.ntmps site id args f m fun v f m=>k v f m [(true,0)]
   |_=>none
  |_,_=>none
 |_=>none
noncomputable def La(draw:Bool)(site:Nat)(o:Oper)(f:Fr)(m:Mem)(k:V→Fr→Mem→bG→Option R):Option R:=
 match(bif draw then none else bif E.BU site then zJ E site o f m else none)with
 |some sp=>xsp E site sp f m k
 |none=>cT E draw site o f m k
def fx(o:Oper):Bool:=
 match o.op with
 |.move _|.assign _|.pick .. |.load .. |.nilCheck _|.binOp .. |.unOp .. |.convert .. |.slice .. |.fieldAddr .. |.field .. |.indexAddr .. |.index .. |.lookup .. |.extract .. |.build .. =>true
 |.call {callee:=.builtin .len,.. }|.call {callee:=.builtin .min,.. }|.call {callee:=.builtin .max,.. }=>true
 |.call {callee:=.value _,.. }=>true
 |_=>false
def AS:bG→Bool
 |[]=>true
 |(w,_)::r=> !w&&AS r
abbrev Log:=List (Nat×Bool×Nat)
def EL(o:Oper)(j:Nat):Bool:=o.after.toList.any fun e=>Region.binds .any e&&Nat.beq e.on j
mutual
def V.ids:V→List Nat
 |.agg cs=>Lb cs
 |.bu cs=>Lb cs
 |.fn _ cs=>Lb cs
 |.os j=>[j]
 |.fX j _ _=>[j]
 |.oe j _ _=>[j]
 |.om j=>[j]
 |.wR j _ _=>[j]
 |.AM j _ _ _ _ _=>[j]
 |.op j _=>[j]
 |.yl j=>[j]
 |.it j=>[j]
 |_=>[]
def Lb:List V→List Nat
 |[]=>[]
 |v::r=>v.ids++Lb r
end
def EM:Option bR→List Nat
 |some (.box cs)=>Lb cs
 |_=>[]
def yB(n:Nat):Nat:=n+2037035976334486086268445688409378161051468393665936250636140449354381299763336706183397376
def Jf(m m':Mem):bG→List Nat
 |[]=>[]
 |x::r=>EM (m x.2)++EM (m' x.2)++Jf m m' r
def Ee(ops:Array Oper)(o:Oper)(f:Fr)(m m':Mem)(v:V)(ft:bG):List Nat:=Lb ((o.looksAt ops).map f)++v.ids++Jf m m' ft
def cU(E:Env)(d:Option Nat):Nat:=match d with|some d=>E.fid*4096+d|none=>E.fid*4096+4095
def isApp(E:Env)(o:Oper):Bool:=E.BU (cU E o.dst)||match o.op with|.call {callee:=.builtin .append,.. }=>true|_=>false
def vn(E:Env)(f:Fr)(m:Mem)(o:Oper):Option (Nat×bG):=
 match o.op with
 |.call c=>match c.callee,c.args.toList.map (bL E f),c.argTypes.toList with
  |.builtin .append,[.os id,x],[t,_]=>match E.P.underlying t with
   |some (.slice e)=>match eX m (aV E.P e) x with
    |some (_,rd)=>if x.has id then none else some (id,rd)
    |none=>none
   |_=>none
  |_,_,_=>none
 |_=>none
def Jg(E:Env)(f:Fr)(m:Mem)(o:Oper):Option (Kl×bG):=
 match(bif E.BU (cU E o.dst)then zJ E (cU E o.dst) o f m else none)with
 |some sp=>some (sp.info (cU E o.dst))
 |none=>match vn E f m o with
  |some (id,rd)=>some ([(true,id)],(true,id)::rd)
  |none=>none
def reach(ops:Array Oper):Nat→Oper→Nat→Bool
 |0,o,j=>EL o j
 |n+1,o,j=>EL o j||o.after.toList.any fun e=>Region.binds .any e&&match ops[e.on]? with|some p=>reach ops n p j|none=>false
def Sg(ops:Array Oper)(o:Oper)(w:Bool)(id:Nat):Log→Bool
 |[]=>true
 |(j,w',sZ)::r=>(!(Nat.beq id sZ)||(!w&& !w')||reach ops 4 o j)&&Sg ops o w id r
def B3(ops:Array Oper)(o:Oper)(lg:Log):bG→Bool
 |[]=>true
 |(w,id)::r=>Sg ops o w id lg&&B3 ops o lg r
def Ef(ops:Array Oper)(o:Oper)(id:Nat):Log→Bool
 |[]=>true
 |(j,_,n)::r=>(!(Nat.beq n (yB id))||reach ops 4 o j)&&Ef ops o id r
def yC(ops:Array Oper):List (Nat×Oper)→Oper→Bool
 |[],_=>true
 |(j,p)::r,o=>(p.apart ops o||reach ops 4 o j)&&yC ops r o
def pd(ops:Array Oper):List (Nat×Oper)→List (Nat×Oper)→Bool
 |_,[]=>true
 |done,(i,o)::r=>o.after.toList.all (fun e=> !(Region.binds .any e)||Nat.blt e.on i)&&yC ops done o&&pd ops ((i,o)::done) r
def guardOf(o:Oper)(A:List (Nat×Bool)):Option (Nat×Bool):=
 match o.guard with
 |none=>none
 |some g=>if A.elem g then none else some g
def C6(A:List (Nat×Bool)):List (Nat×Oper)→List (Nat×Oper)×List (Nat×Oper)
 |[]=>([],[])
 |x::r=>match guardOf x.2 A with
  |some _=>let(a,b):=C6 A r;(x::a,b)
  |none=>([],x::r)
def nb(f:Fr):List (Nat×Oper)→Fr
 |[]=>f
 |x::r=>nb (jK f x.2.dst .top) r
def wV(g:Nat×Bool):List Nat→List (Nat×Oper)→Bool
 |_,[]=>true
 |done,x::r=>(match x.2.guard with
  |some h=>(Nat.beq h.1 g.1&&(h.2==g.2))||done.elem h.1
  |none=>false)&&wV g (x.1::done) r
def blind(ops:Array Oper)(body:List (Nat×Oper))(o:Oper):Bool:=body.all fun y=>match y.2.dst with
  |some d=> !((o.looksAt ops).elem d)
  |none=>true
def Hz:Bool→Bool→Bool
 |true,b=>b
 |false,b=> !b
def jq(f:Fr):List (Nat×Oper)→Fr
 |[]=>f
 |x::r=>jq (jK f x.2.dst (.bu [])) r
def zd:V→Option Bool
 |.pv (.bool b)=>some b
 |_=>none
end
def wW(E:Env)(o:Oper):Bool:=match o.dst with|some d=>Nat.blt d E.fn.ntmps|none=>true
def Jh(E:Env)(g:FuncId):Bool:=match E.P.funcs[g]? with|some fn=>fn.resultTypes.toList.all (vl E)|none=>false
def Zt(E:Env)(f:Fr)(body:List (Nat×Oper))(o:Oper):Bool:=
 fx o&&match o.op with
 |.call {callee:=.value (.func g),.. }=>(E.ctx g).isSome&&Jh E g
 |.call {callee:=.value (.tmp t),.. }=>match(match body.find? (fun x=>x.2.dst==some t)with
  |some (_,p)=>(match p.op with
   |.move y=>bL E f y
   |.assign y=>bL E f y
   |_=>.top)
  |none=>bL E f (.tmp t))with
  |.fn g _=>(E.ctx (wB g)).isSome&&Jh E (wB g)
  |.pv (.fn g _)=>(E.ctx (wB g)).isSome&&Jh E (wB g)
  |.yl _=>false
  |_=>true
 |_=>true
noncomputable def cB(E:Env)(ops:Array Oper)(mode:Nat):(fuel:Nat)→(R:Type)→List (Nat×Bool)→List (Nat×Oper)→Fr→Mem→Log→(Fr→Mem→Option R)→Option R
 |0,_,_,_,_,_,_,_=>none
 |_+1,_,_,[],f,m,_,k=>k f m
 |fuel+1,R,A,(i,o)::rest,f,m,lg,k=>
  match guardOf o A with
  |none=>
   if wW E o then
    match(bif Nat.beq mode 2 then Jg E f m o else none)with
    |some (kl,ft)=>
     if B3 ops o lg ft&&kl.all (fun x=>Ef ops o x.2 lg)&&rest.all (fun x=>reach ops 4 x.2 i)then La E false (cU E o.dst) o f m fun v f1 m1 _=>cB E ops mode fuel R A rest (jK f1 o.dst v) m1 (ft.map (fun x=>(i,x))++lg) k
     else none
    |none=>La E (Nat.beq mode 1||Nat.beq mode 2) (cU E o.dst) o f m fun v f1 m1 ft=>
      if Nat.beq mode 2 then(if B3 ops o lg ft then cB E ops mode fuel R A rest (jK f1 o.dst v) m1 ((bif ops.toList.any (isApp E)then(Ee ops o f m m1 v ft).map (fun n=>(i,false,yB n))else[])++(ft.map (fun x=>(i,x))++lg)) k else none)
      else if Nat.beq mode 0 then cB E ops mode fuel R A rest (jK f1 o.dst v) m1 lg k
      else if AS ft then cB E ops mode fuel R A rest (jK f1 o.dst v) m1 lg k
      else none
   else none
  |some (j,C7)=>
   match((ops[j]?).bind (·.dst))with
   |some tj=>match bL E f (.tmp tj)with
    |.pv (.bool b)=>
     match C6 A ((i,o)::rest)with
     |(body,Lc)=>
     if Nat.beq mode 0&& !(body.all fun x=>Zt E f body x.2)then
      (if(body.all fun x=>wW E x.2)&&wV (j,C7) [] body&&((i,o)::rest).all (fun x=> !(x.2.dst==some tj))then
       bif Hz C7 b then cB E ops mode fuel R ((j,C7)::A) ((i,o)::rest) (gO f tj (.pv (.bool C7))) m lg k
       else cB E ops mode fuel R A Lc (jq (gO f tj (.pv (.bool !C7))) body) m lg k
      else none)
     else match Lc with
     |(_,p)::nc=>
      match p.op with
      |.pick (.tmp c) x y=>
       if Nat.beq c tj&&(guardOf p A).isNone&&body.all (fun x=>fx x.2&&wW E x.2&& !(x.2.dst==some tj))&&wV (j,C7) [] body&&nc.all (fun x=>blind ops body x.2)&&wW E p&& !(Nat.beq mode 2)then
        (match C7 with
         |true=>bif b then cB E ops (bif Nat.beq mode 0 then 3 else mode) fuel Bool ((j,C7)::A) body f m lg (fun f _=>zd (bL E f x))else zd (bL E (nb f body) y)
         |false=>bif b then zd (bL E (nb f body) x)else cB E ops (bif Nat.beq mode 0 then 3 else mode) fuel Bool ((j,C7)::A) body f m lg (fun f _=>zd (bL E f y))).bind fun r=>
        cB E ops mode fuel R A nc (jK (nb f body) p.dst (.pv (.bool r))) m lg k
       else none
      |_=>none
     |[]=>none
    |_=>none
   |none=>none
inductive Ex where
 |normal
 |exit (id:Nat)
 |ret
def Ld{R:Type}(body:Fr→Mem→(Fr→Mem→Option R)→Option R):Nat→Fr→Mem→Option R
 |0,_,_=>none
 |n+1,f,m=>body f m (Ld body n)
def yD:Code→Nat
 |.region id _ _=>id
 |.seq a _=>yD a
 |.cond _ a _=>yD a
 |.block _ b=>yD b
 |.loop b=>yD b
 |.scope b=>yD b
 |_=>0
def Si:List Sh→Type→Type
 |[],T=>T
 |.raw::r,T=>PV×Si r T
 |.int _::r,T=>Int×Si r T
 |.bool::r,T=>Bool×Si r T
 |.str::r,T=>Bytes×Si r T
 |.rs _::r,T=>List PV×Si r T
 |.rp _::r,T=>PV×Si r T
 |.fs _::r,T=>List PV×Si r T
 |.row _ _::r,T=>Int×Si r T
 |.own _::r,T=>Si r T
def KW:List (Nat×VZ)→Type
 |[]=>Unit
 |(_,.box cs)::r=>Si cs (KW r)
 |(_,.arr _ _)::r=>List PV×KW r
 |(_,.ri _ _)::r=>List PV×KW r
 |(_,.map _)::r=>List (PV×PV)×KW r
 |(_,.nest _ _)::r=>List PV×KW r
 |(_,.fv _ _)::r=>List (PV×PV)×KW r
 |(_,.loop)::r=>KW r
 |(_,.busy)::r=>KW r
 |(_,.iter _)::r=>List (PV×PV)×KW r
def eA.kj(T:eA):List Sh:=T.ax.map Prod.snd
abbrev eA.ty(T:eA):Type:=Si T.kj (KW T.bD)
mutual
def V.same:V→V→Bool
 |.op i o,.op j p=>Nat.beq i j&&Nat.beq o p
 |.oe i a o,.oe j b p=>Nat.beq i j&&Nat.beq a b&&Nat.beq o p
 |.os i,.os j=>Nat.beq i j
 |.om i,.om j=>Nat.beq i j
 |.yl i,.yl j=>Nat.beq i j
 |.it i,.it j=>Nat.beq i j
 |.iK,.iK=>true
 |.pv .qU,.pv .qU=>true
 |.pv .wJ,.pv .wJ=>true
 |.pv (.int q x),.pv (.int q' y)=>decide (q=q')&&decide (x=y)
 |.fn f cs,.fn g ds=>Nat.beq f g&&HA cs ds
 |_,_=>false
def HA:List V→List V→Bool
 |[],[]=>true
 |a::as,b::bs=>a.same b&&HA as bs
 |_,_=>false
end
section
variable {R:Type}
def kn{T:Type}:(kj:List Sh)→List V→T→(Si kj T→Option R)→Option R
 |[],[],t,k=>k t
 |.int q::kj,.pv (.int q' n)::vs,t,k=>if q'=q then kn kj vs t (fun r=>k (n,r))else none
 |.raw::kj,.pv p::vs,t,k=>kn kj vs t (fun r=>k (p,r))
 |.bool::kj,.pv (.bool b)::vs,t,k=>kn kj vs t (fun r=>k (b,r))
 |.str::kj,.pv (.str s)::vs,t,k=>kn kj vs t (fun r=>k (s,r))
 |.rs sz::kj,.pv (.rs GY es)::vs,t,k=>if GY=sz then kn kj vs t (fun r=>k (es,r))else none
 |.rp n::kj,.pv (.rp cs)::vs,t,k=>if cs.length=n then kn kj vs t (fun r=>k (.agg cs,r))else none
 |.fs s::kj,.pv p::vs,t,k=>(Zs s p).bind fun ls=>kn kj vs t (fun r=>k (ls,r))
 |.row id off::kj,.wR sZ i tC::vs,t,k=>if sZ=id∧tC=off then kn kj vs t (fun r=>k ((i:Int),r))else none
 |.own v::kj,u::vs,t,k=>if v.same u then kn kj vs t k else none
 |_,_,_,_=>none
def uo(m:Mem):(bs:List (Nat×VZ))→(KW bs→Option R)→Option R
 |[],k=>k ()
 |(id,.box cs)::r,k=>match m id with
  |some (.box vs)=>uo m r fun t=>kn (T:=KW r) cs vs t k
  |_=>none
 |(id,.arr sz et)::r,k=>match m id with
  |some (.arr GY GZ es)=>if GY=sz∧GZ=et then uo m r fun t=>k (es,t)else none
  |_=>none
 |(id,.ri sz et)::r,k=>match m id with
  |some (.ri GY GZ es)=>if GY=sz∧GZ=et then uo m r fun t=>k (es,t)else none
  |_=>none
 |(id,.map kt)::r,k=>match m id with
  |some (.map wL es)=>if wL=kt then uo m r fun t=>k (es,t)else none
  |_=>none
 |(id,.nest sz et)::r,k=>match m id with
  |some (.nest GY GZ es)=>if GY=sz∧GZ=et then uo m r fun t=>k (es,t)else none
  |_=>none
 |(id,.fv kt e)::r,k=>match m id with
  |some (.fv wL e' es)=>if wL=kt∧e'=e then uo m r fun t=>k (es,t)else none
  |_=>none
 |(id,.loop)::r,k=>match m id with
  |some (.loop .ready)=>uo m r k
  |_=>none
 |(id,.busy)::r,k=>match m id with
  |some (.loop .busy)=>uo m r k
  |_=>none
 |(id,.iter t)::r,k=>match m id with
  |some (.iter t' es none)=>if t'=t then uo m r fun u=>k (es,u)else none
  |_=>none
def Sh.within(M:List Nat):Sh→Bool
 |.own v=>v.within M
 |.row id _=>M.elem id
 |_=>true
def VZ.within(M:List Nat):VZ→Bool
 |.box cs=>cs.all (·.within M)
 |_=>true
def eA.ok(T:eA):Bool:=T.ax.all (fun x=>x.2.within (T.bD.map (·.1)))&&T.bD.all (fun x=>x.2.within (T.bD.map (·.1)))
def EN:List Sh→List V→Bool
 |[],[]=>true
 |.raw::kj,.pv _::vs=>EN kj vs
 |.int q::kj,.pv (.int q' _)::vs=>decide (q'=q)&&EN kj vs
 |.bool::kj,.pv (.bool _)::vs=>EN kj vs
 |.str::kj,.pv (.str _)::vs=>EN kj vs
 |.rs sz::kj,.pv (.rs GY _)::vs=>Nat.beq GY sz&&EN kj vs
 |.rp n::kj,.pv (.rp cs)::vs=>Nat.beq cs.length n&&EN kj vs
 |.fs s::kj,.pv p::vs=>(Zs s p).isSome&&EN kj vs
 |.row id off::kj,.wR sZ _ tC::vs=>Nat.beq sZ id&&Nat.beq tC off&&EN kj vs
 |.own v::kj,u::vs=>v.same u&&EN kj vs
 |_,_=>false
def G8(m:Mem):List (Nat×VZ)→Bool
 |[]=>true
 |(id,.box cs)::r=>(match m id with|some (.box vs)=>EN cs vs|_=>false)&&G8 m r
 |(id,.arr sz _)::r=>(match m id with|some (.arr GY _ _)=>Nat.beq GY sz|_=>false)&&G8 m r
 |(id,.ri sz _)::r=>(match m id with|some (.ri GY _ _)=>Nat.beq GY sz|_=>false)&&G8 m r
 |(id,.map _)::r=>(match m id with|some (.map _ _)=>true|_=>false)&&G8 m r
 |(id,.nest sz _)::r=>(match m id with|some (.nest GY _ _)=>Nat.beq GY sz|_=>false)&&G8 m r
 |(id,.fv _ _)::r=>(match m id with|some (.fv _ _ _)=>true|_=>false)&&G8 m r
 |(id,.loop)::r=>(match m id with|some (.loop .ready)=>true|_=>false)&&G8 m r
 |(id,.busy)::r=>(match m id with|some (.loop .busy)=>true|_=>false)&&G8 m r
 |(id,.iter _)::r=>(match m id with|some (.iter _ _ none)=>true|_=>false)&&G8 m r
def fits(f:Fr)(m:Mem)(T:eA):Bool:=G8 m T.bD&&EN T.kj (T.ax.map fun(x:Nat×Sh)=>f x.1)
def enc(T:eA)(f:Fr)(m:Mem)(k:T.ty→Option R):Option R:=if T.ok then uo m T.bD fun t=>kn (T:=KW T.bD) T.kj (T.ax.map fun(x:Nat×Sh)=>f x.1) t k else none
end
def s8{T:Type}:(kj:List Sh)→Si kj T→List V×T
 |[],t=>([],t)
 |.int q::kj,x=>let r:=s8 kj x.2;(.pv (.int q x.1)::r.1,r.2)
 |.raw::kj,x=>let r:=s8 kj x.2;(.pv x.1::r.1,r.2)
 |.bool::kj,x=>let r:=s8 kj x.2;(.pv (.bool x.1)::r.1,r.2)
 |.str::kj,x=>let r:=s8 kj x.2;(.pv (.str x.1)::r.1,r.2)
 |.rs sz::kj,x=>let r:=s8 kj x.2;(.pv (.rs sz x.1)::r.1,r.2)
 |.rp n::kj,x=>let r:=s8 kj x.2;(.pv (.rp (aJ n x.1))::r.1,r.2)
 |.fs s::kj,x=>let r:=s8 kj x.2;(.pv (Jb s ((List.range s.n).map fun j=>x.1.getD j .bad)).1::r.1,r.2)
 |.row id off::kj,x=>let r:=s8 kj x.2;(.wR id x.1.toNat off::r.1,r.2)
 |.own v::kj,x=>let r:=s8 (T:=T) kj x;(v::r.1,r.2)
def iA:(bs:List (Nat×VZ))→KW bs→List (Nat×Option bR)
 |[],_=>[]
 |(id,.box cs)::r,x=>let y:=s8 (T:=KW r) cs x;(id,some (.box y.1))::iA r y.2
 |(id,.arr sz et)::r,x=>(id,some (.arr sz et x.1))::iA r x.2
 |(id,.ri sz et)::r,x=>(id,some (.ri sz et x.1))::iA r x.2
 |(id,.map kt)::r,x=>(id,some (.map kt x.1))::iA r x.2
 |(id,.nest sz et)::r,x=>(id,some (.nest sz et x.1))::iA r x.2
 |(id,.fv kt e)::r,x=>(id,some (.fv kt e x.1))::iA r x.2
 |(id,.loop)::r,x=>(id,some (.loop .ready))::iA (r:List (Nat×VZ)) x
 |(id,.busy)::r,x=>(id,some (.loop .busy))::iA (r:List (Nat×VZ)) x
 |(id,.iter t)::r,x=>(id,some (.iter t x.1 none))::iA r x.2
def rH:List (Nat×Sh)→List V→List (Nat×V)
 |(t,_)::r,v::vs=>(t,v)::rH r vs
 |_,_=>[]
def Om(T:eA)(x:T.ty):Fr:=Of (rH T.ax (s8 (T:=KW T.bD) T.kj x).1)
def EO(T:eA)(x:T.ty):Mem:=EB (iA T.bD (s8 (T:=KW T.bD) T.kj x).2)
def C8{A:Type}:List (Nat×Nat)→Fr→Mem→(Fr→Mem→A)→A
 |[],f,m,k=>k f m
 |(t,sz)::r,f,m,k=>match f t with
  |.os id=>match m id with
   |some (.arr s et es)=>C8 r (gO f t (.pv (.rs s es))) (aq m id (.ri s et es)) k
   |some (.ri s _ es)=>C8 r (gO f t (.pv (.rs s es))) m k
   |_=>C8 r f m k
  |.iK=>C8 r (gO f t (.pv (.rs sz []))) m k
  |_=>C8 r f m k
def HB{A:Type}:List (Nat×Nat×Nat)→Mem→(Mem→A)→A
 |[],m,k=>k m
 |(id,j,sz)::r,m,k=>match m id with
  |some (.box cs)=>match cs[j]? with
   |some .iK=>HB r (aq m id (.box (cs.set j (.pv (.rs sz []))))) k
   |_=>HB r m k
  |_=>HB r m k
def C9{A:Type}(P:Program):List (Nat×Nat×Nat×TypeId)→Mem→(Mem→A)→A
 |[],m,k=>k m
 |(id,j,V6,et)::r,m,k=>match m id with
  |some (.box cs)=>match cs[j]? with
   |some .iK=>match m V6 with
    |none=>if 0<aV P et then C9 P r (aq (aq m V6 (.arr (aV P et) et [])) id (.box (cs.set j (.os V6)))) k else C9 P r m k
    |some _=>C9 P r m k
   |_=>C9 P r m k
  |_=>C9 P r m k
def Le{A:Type}:List Nat→Mem→(Mem→A)→A
 |[],m,k=>k m
 |id::r,m,k=>match m id with
  |some (.arr s et es)=>Le r (aq m id (.nest s et es)) k
  |_=>Le r m k
def Da{A:Type}:List (Nat×Nat)→Fr→Mem→(Fr→Mem→A)→A
 |[],f,m,k=>k f m
 |(id,j)::r,f,m,k=>match m id with
  |some (.box cs)=>match cs[j]? with
   |some (.fX a 0 len)=>match m a with
    |some (.arr s et es)=>if Nat.beq a id then Da r f m k else Da r (fi a f) (aq (aq (bq (bM a m) a) a (.arr s et (es.take len))) id (.box ((cs.map (th a)).set j (.os a)))) k
    |_=>Da r f m k
   |_=>Da r f m k
  |_=>Da r f m k
def HC{A:Type}(P:Program)(T:eA)(f:Fr)(m:Mem)(k:Fr→Mem→A):A:=Da T.ct f m fun f m=>C9 P T.bo m fun m=>HB T.bz m fun m=>Le T.nz m fun m=>C8 T.fz f m k
variable{R:Type}
def Ex.Lf(k1:Fr→Mem→Option R)(k:Ex→Fr→Mem→Option R):Ex→Fr→Mem→Option R
 |.normal,f,m=>k1 f m
 |e,f,m=>k e f m
def Ex.V7(id:Nat)(k:Ex→Fr→Mem→Option R):Ex→Fr→Mem→Option R
 |.exit j,f,m=>if j=id then k .normal f m else k (.exit j) f m
 |e,f,m=>k e f m
def Ex.jmp:Ex→Option Jmp
 |.normal=>none
 |.exit id=>some (.exit id)
 |.ret=>some .ret
def Jmp.ex:Jmp→Ex
 |.ret=>.ret
 |.exit id=>.exit id
def Sj(n:Nat)(g f:Fr):Fr:=fun t=>bif Nat.blt t n then g t else f (t-n)
def EP:List Nat→List V→Fr→Fr
 |p::ps,v::vs,f=>EP ps vs (gO f p v)
 |_,_,f=>f
def roundOf(as b:Fr→Mem→(Ex→Fr→Mem→Option R)→Option R)(lid n:Nat)(ps:List Nat)(nt:Nat)(args:List V)(F:Fr)(m:Mem)(k:V→Fr→Mem→Option R):Option R:=
 match m lid with
 |some (.loop .ready)=>if args.length=ps.length then
  as (Sj n (EP ps args (wU nt F)) F) m fun e f m=>match e,m lid with
   |.normal,some (.loop .ready)=>b f (aq m lid (.loop .busy)) fun e f m=>match m lid with
    |some (.loop .busy)=>match e.jmp with
     |none=>k (.pv (.bool true)) (wU n f) (aq m lid (.loop .ready))
     |some j=>k (.pv (.bool false)) (wU n f) (aq m lid (.loop (.done j)))
    |_=>none
   |_,_=>none
  else none
 |_=>none
def abL:V→Option (FuncId×List V)
 |.fn g caps=>bif Nat.blt g EC then some (g,caps)else none
 |.pv (.fn g caps)=>bif Nat.blt g EC then some (g,caps.map .pv)else none
 |_=>none
def adH(E:Env)(o:Oper):Bool:=match o.op with
 |.call c=>match c.callee with
  |.value (.func g)=>(E.ctx g).isNone&&(E.own g).isNone
  |_=>false
 |_=>false
def adI(E:Env)(o:Oper):Bool:=match o.op with
 |.call c=>match c.callee with
  |.value (.func g)=>(E.ctx g).isNone&&(E.own g).isSome
  |_=>false
 |_=>false
def Zu(E:Env)(ops:Array Oper):Option Nat:=ops.toList.findIdx? (adH E)
def V8(ops:Array Oper)(p:Nat):Bool:=match ops[p]? with
 |none=>false
 |some o=>o.guard.isNone&&o.after.toList.all (fun e=> !(Region.binds .any e)||Nat.blt e.on p)&&((List.range ops.size).zip ops.toList).all fun x=>bif Nat.blt x.1 p then reach ops 8 o x.1 else Nat.beq x.1 p||reach ops 8 x.2 p
noncomputable def fM:(E:Env)→{R:Type}→Code→Fr→Mem→(Ex→Fr→Mem→Option R)→Option R
 |E,_,.skip,f,m,k=>k .normal f m
 |E,R,.region _ ops draw,f,m,k=>
  if draw then
   match Zu E ops with
   |some p=>if V8 ops p&&pd ops [] (((List.range ops.size).zip ops.toList).take p)&&pd ops [] (((List.range ops.size).zip ops.toList).drop (p+1))then
     cB E ops 2 (ops.size+1) R [] (((List.range ops.size).zip ops.toList).take p) f m [] fun f m=>
     cB E ops 0 3 R [] ((((List.range ops.size).zip ops.toList).drop p).take 1) f m [] fun f m=>
     cB E ops 2 (ops.size+1) R [] (((List.range ops.size).zip ops.toList).drop (p+1)) f m [] fun f m=>k .normal f m
    else none
   |none=>
   (if pd ops [] ((List.range ops.size).zip ops.toList)then
    (if ops.toList.all (fun o=>fx o&& !adI E o)then cB E ops 1 (ops.size+1) R [] ((List.range ops.size).zip ops.toList) f m [] fun f m=>k .normal f m
    else cB E ops 2 (ops.size+1) R [] ((List.range ops.size).zip ops.toList) f m [] fun f m=>k .normal f m)
   else none)
  else cB E ops 0 (ops.size+ops.size+1) R [] ((List.range ops.size).zip ops.toList) f m [] fun f m=>k .normal f m
 |E,R,.seq a b,f,m,k=>fM E a f m (Ex.Lf (fun f m=>fM E b f m k) k)
 |E,R,.cond c a b,f,m,k=>match c,bL E f c with
  |.tmp x,.pv (.bool t)=>if t then fM E a (gO f x (.pv (.bool true))) m k else fM E b (gO f x (.pv (.bool false))) m k
  |_,_=>none
 |E,R,.block id b,f,m,k=>fM E b f m (Ex.V7 id k)
 |E,R,.loop b,f,m,k=>match(E.hint E.fid (yD b)).find? (fun T=>HC E.P T f m fun f m=>fits f m T)with
  |some T=>HC E.P T f m fun f m=>enc T f m (E.lp.run fun s rec=>fM E b (Om T s) (EO T s) (Ex.Lf (fun f m=>HC E.P T f m fun f m=>enc T f m rec) k))
  |none=>Ld (fun f m rec=>fM E b f m (Ex.Lf rec k)) E.u f m
 |E,R,.exit id,f,m,k=>k (.exit id) f m
 |E,R,.ret,f,m,k=>k .ret f m
 |E,R,.label _,f,m,k=>k .normal f m
 |E,R,.scope b,f,m,k=>fM E b f m k
 |E,R,.rangeFunc g ps as b,f,m,k=>if E.rdb then none else match ps.toList with
  |p0::_=>fresh true (cU E (some p0)) (.loop .ready) f m fun f m _=>match abL (bL E f g)with
   |some (gid,caps)=>E.rng R gid (cU E (some p0)*4096+gid) (fun _ nt site id args F m k=>bif Nat.beq id (cU E (some p0))then
     roundOf (fM {E with fid:=site*4096+E.fid%4096,yl:=BT,rdb:=true} as) (fM {E with fid:=site*4096+E.fid%4096,yl:=BT,rdb:=true} b) (cU E (some p0)) E.fn.ntmps ps.toList nt args F m k
     else none)
    (.yl (cU E (some p0))::caps) f m fun _ f m=>match m (cU E (some p0))with
     |some (.loop .ready)=>k .normal (fi (cU E (some p0)) f) (bq (bM (cU E (some p0)) m) (cU E (some p0)))
     |some (.loop (.done j))=>k j.ex (fi (cU E (some p0)) f) (bq (bM (cU E (some p0)) m) (cU E (some p0)))
     |_=>none
   |_=>none
  |[]=>none
 |_,_,_,_,_,_=>none
def AU(E:Env){R:Type}(f:Fr)(m:Mem):List ResultVar→(List V→Option R)→Option R
 |[],k=>k []
 |.tmp t::rs,k=>AU E f m rs fun vs=>k (bL E f (.tmp t)::vs)
 |.cell a t::rs,k=>qO E false t (bL E f (.tmp a)) m fun v _=>AU E f m rs fun vs=>k (v::vs)
def V9(E:Env)(rs:List ResultVar)(f:Fr)(m:Mem):Option PV:=AU E f m rs fun vs=>match vs with
  |[v]=>lj m eW v
  |vs=>(qW (lj m eW) vs).bind fun ps=>some (.bu ps)
section
variable {R:Type} (E:Env)
def Ji(t:TypeId)(p:PV)(k:PV→Option R):Option R:=
 match E.P.underlying t with
 |some (.int _)=>gQ E t p k
 |some .bool=>gQ E t p k
 |some .string=>gQ E t p k
 |some (.slice _)=>gQ E t p k
 |some (.map _ _)=>gQ E t p k
 |_=>k p
def qX:List TypeId→List PV→(List PV→Option R)→Option R
 |t::ts,p::ps,k=>Ji E t p fun q=>qX ts ps fun qs=>k (q::qs)
 |_,ps,k=>k ps
def Sk(n:Nat)(p:PV)(a:Option R)(b:PV→Option R):Option R:=
 match p with
 |.qU=>a
 |.rp cs=>if n≤cs.length then b (.agg cs)else none
 |_=>none
def Wa(t:TypeId)(p:PV)(k:PV→Option R):Option R:=
 match E.P.underlying t with
 |some (.struct _)=>(asAgg (aV E.P t) p).bind fun _=>match EK E.P 8 t with
  |some ts=>qX E ts (aJ (aV E.P t) p) fun cs=>k (.agg cs)
  |none=>none
 |some (.array _ _)=>(asAgg (aV E.P t) p).bind fun _=>match EK E.P 8 t with
  |some ts=>qX E ts (aJ (aV E.P t) p) fun cs=>k (.agg cs)
  |none=>none
 |some (.pointer e)=>Sk (aV E.P e) p (k .qU) fun q=>match EK E.P 8 e with
  |some ts=>qX E ts (aJ (aV E.P e) q) fun cs=>k (.rp cs)
  |none=>none
 |_=>Ji E t p k
def zL:List TypeId→List PV→(List PV→Option R)→Option R
 |t::ts,p::ps,k=>Wa E t p fun q=>zL ts ps fun qs=>k (q::qs)
 |_,ps,k=>k ps
end
def ER(args:List V):Fr:=fun t=>args.getD t .top
noncomputable def Eg(E:Env)(args:List V)(f:Fr)(m:Mem)(k:V→Fr→Mem→Option R):Option R:=
 match E.fn.body with
 |some c=>if args.length≤E.fn.ntmps then fM E c (wA E.fn.ntmps args f) m (fun e f m=>match e with
  |.exit _=>none
  |_=>AU E f m E.fn.results.toList fun vs=>match vs with
   |[v]=>k v (wU E.fn.ntmps f) m
   |vs=>k (.bu vs) (wU E.fn.ntmps f) m)else none
 |none=>none
def abM(E:Env)(f:Fr)(m:Mem):Option PV:=
 match E.fn.resultTypes.toList with
 |[t]=>match E.P.underlying t with
  |some (.slice e)=>AU E f m E.fn.results.toList fun vs=>match vs with
   |[.os id]=>match m id with
    |some (.arr sz et es)=>if sz=aV E.P e∧et=e then some (.rs sz es)else none
    |_=>none
   |[.fX id 0 len]=>match m id with
    |some (.arr sz et es)=>if sz=aV E.P e∧et=e then some (.rs sz (es.take len))else none
    |_=>none
   |_=>none
  |_=>none
 |_=>none
noncomputable def Eh(E:Env)(args:List PV):Option PV:=
 match E.fn.body with
 |some c=>if args.length≤E.fn.ntmps then zL E E.fn.params.toList args fun vs=>fM E c (ER (vs.map .pv)) (fun _=>none) (fun e f m=>match e with
  |.exit _=>none
  |_=>abM E f m)else none
 |none=>none
noncomputable def al(E:Env)(args:List PV):Option PV:=
 match E.fn.body with
 |some c=>if args.length≤E.fn.ntmps then zL E E.fn.params.toList args fun vs=>fM E c (ER (vs.map .pv)) (fun _=>none) (fun e f m=>match e with
  |.normal=>V9 E E.fn.results.toList f m
  |.ret=>V9 E E.fn.results.toList f m
  |.exit _=>none)else none
 |none=>none
end Go.Ab
