import Derived.Test.YtcmhmlnkhmefbaaGreatAbDefs
import Derived.Deep.Quiet
set_option linter.unusedVariables false
namespace Go.Ab
inductive FS where
 |raw
 |fn (g:FuncId) (lU:List FS)
 |ptr (cells:List FS)
mutual
def TT:FS→PV→Option (List PV)
 |.raw,p=>some [p]
 |.fn g cs,.fn g' qs=>if g'=g then F6 cs qs else none
 |.ptr cs,.rp qs=>F6 cs qs
 |_,_=>none
def F6:List FS→List PV→Option (List PV)
 |[],[]=>some []
 |s::ss,p::ps=>(TT s p).bind fun a=>(F6 ss ps).bind fun b=>some (a++b)
 |_,_=>none
end
mutual
def Ei:FS→List PV→PV×List PV
 |.raw,[]=>(.bad,[])
 |.raw,p::r=>(p,r)
 |.fn g cs,l=>(.fn g (yV cs l).1,(yV cs l).2)
 |.ptr cs,l=>(.rp (yV cs l).1,(yV cs l).2)
def yV:List FS→List PV→List PV×List PV
 |[],l=>([],l)
 |s::ss,l=>((Ei s l).1::(yV ss (Ei s l).2).1,(yV ss (Ei s l).2).2)
end
mutual
def FS.n:FS→Nat
 |.raw=>1
 |.fn _ cs=>ZB cs
 |.ptr cs=>ZB cs
def ZB:List FS→Nat
 |[]=>0
 |s::ss=>s.n+ZB ss
end
inductive Sh where
 |raw
 |int (q:IntKind)
 |bool
 |str
 |rs (sz:Nat)
 |rp (n:Nat)
 |fs (s:FS)
 |row (id off:Nat)
 |own (v:V)
inductive Qf where
 |box (cs:List Sh)
 |arr (sz:Nat) (et:TypeId)
 |nM (sz:Nat) (et:TypeId)
 |map (kt:TypeId)
 |nest (sz:Nat) (et:TypeId)
 |eU (kt e:TypeId)
 |loop
 |busy
 |iter (t:TypeId)
structure ff where
 az:List (Nat×Sh)
 bQ:List (Nat×Qf)
 fz:List (Nat×Nat):=[]
 bz:List (Nat×Nat×Nat):=[]
 bo:List (Nat×Nat×Nat×TypeId):=[]
 nz:List Nat:=[]
 ct:List (Nat×Nat):=[]
structure bA where
 run:{S R:Type}→(S→(S→Option R)→Option R)→S→Option R
 room:Nat→Bool
 rM:∀n,room n=true→(n:Int)≤IntKind.i64.max
def cE{S R:Type}(body:S→(S→Option R)→Option R):Nat→S→Option R
 |0,_=>none
 |n+1,s=>body s (cE body n)
abbrev YL:=(R:Type)→Nat→Nat→Nat→List V→Fr→Mem→(V→Fr→Mem→Option R)→Option R
def xN:YL:=fun _ _ _ _ _ _ _ _=>none
structure Env where
 P:Program
 ctx:FuncId→Option (List PV→Option PV)
 aH:Nat→Option (List PV)
 fid:FuncId
 fn:Func
 lp:bA
 hint:Nat→Nat→List ff
 u:Nat
 own:FuncId→Option (List PV→Option PV)
 inl:(R:Type)→FuncId→Nat→List V→Fr→Mem→(V→Fr→Mem→Option R)→Option R
 WR:(R:Type)→FuncId→Nat→YL→List V→Fr→Mem→(V→Fr→Mem→Option R)→Option R
 yl:YL
 WS:Bool:=false
 Y2:FuncId→Option FS:=fun _=>none
 yW:Nat→Bool:=fun _=>false
section
variable {R:Type} (E:Env)
def dP(kt:TypeId)(p:PV)(a:Option R)(b:List PV→List PV→Option R):Option R:=
 match p with
 |.sN=>a
 |.rm sQ ks vs=>if sQ=kt then b ks vs else none
 |_=>none
def fJ(t:TypeId)(p:PV)(k:PV→Option R):Option R:=
 match E.P.underlying t with
 |some (.int q)=>(asInt q p).bind fun n=>k (.int q n)
 |some .bool=>(asBool p).bind fun b=>k (.bool b)
 |some .string=>(bt p).bind fun s=>k (.str s)
 |some (.slice e)=>(ab (aS E.P e) p).bind fun es=>k (.rs (aS E.P e) es)
 |some (.struct _)=>(asAgg (aS E.P t) p).bind fun _=>k (.agg (aK (aS E.P t) p))
 |some (.array _ _)=>(asAgg (aS E.P t) p).bind fun _=>k (.agg (aK (aS E.P t) p))
 |some (.pointer _)=>match p with
  |.ny=>k p
  |.rp _=>k p
  |_=>none
 |some (.map kt _)=>dP kt p (k .sN) fun ks vs=>k (.rm kt ks vs)
 |some (.func _ _ _)=>match p with
  |.xL=>k .xL
  |.fn g cs=>k (.fn g cs)
  |_=>none
 |some (.interface _)=>(Ml p).bind fun b=>k (.Tu b)
 |_=>none
def wF(t:TypeId)(v:V)(k:V→Option R):Option R:=
 match v with
 |.pv p=>fJ E t p fun p=>k (.pv p)
 |.top=>none
 |v=>if(E.P.underlying t).isSome then k v else none
def yX:List TypeId→List PV→(List V→Option R)→Option R
 |[],[],k=>k []
 |t::ts,p::ps,k=>fJ E t p fun q=>yX ts ps fun vs=>k (.pv q::vs)
 |_,_,_=>none
def yY(ts:List TypeId)(r:PV)(k:V→Option R):Option R:=
 match ts with
 |[]=>(bW 0 r).bind fun _=>k (.bm [])
 |[t]=>fJ E t r fun q=>k (.pv q)
 |ts=>(bW ts.length r).bind fun vs=>yX E ts ((List.range ts.length).map fun j=>vs.getD j .bad) fun us=>k (.bm us)
def xO(fid:FuncId)(ts:List TypeId)(r:PV)(k:V→Option R):Option R:=
 match E.Y2 fid with
 |some s=>(TT s r).bind fun ls=>k (.pv (Ei s ((List.range s.n).map fun j=>ls.getD j .bad)).1)
 |none=>yY E ts r k
def bB(f:Fr):Operand→V
 |.tmp t=>bif Nat.blt t E.fn.ntmps then f t else .top
 |.const c=>C4 c
 |.global g=>match E.aH g with|some cs=>.pv (.rp cs)|none=>.top
 |.func f=>.fn f []
def fresh(draw:Bool)(site:Nat)(b:bJ)(f:Fr)(m:Mem)(k:Fr→Mem→bp→Option R):Option R:=
 match m site with
 |none=>k f (an m site b) [(true,site)]
 |some _=>if draw||b.names site then none else k (eP site f) (an (bC site m) site b) [(true,site)]
def oa:V→Option (List V)
 |.pv (.agg cs)=>some (cs.map .pv)
 |.agg cs=>some cs
 |_=>none
def dd:Mem:=fun _=>none
def kE(op:BinOp)(t:TypeId)(a b:V)(k:PV→Option R):Option R:=
 match a,b with
 |.pv (.int q x),.pv (.int q' y)=>match op with
  |.shl=>if y<0 then none else k (.int q (q.wrap (x*2^(min y.toNat q.bits))))
  |.shr=>if y<0 then none else k (.int q (x.fdiv (2^(min y.toNat q.bits))))
  |op=>if q=q' then match op with
   |.add=>k (.int q (q.wrap (x+y)))
   |.sub=>k (.int q (q.wrap (x-y)))
   |.mul=>k (.int q (q.wrap (x*y)))
   |.quo=>if y=0 then none else k (.int q (q.wrap (x.tdiv y)))
   |.rem=>if y=0 then none else k (.int q (x.tmod y))
   |.and=>k (.int q (q.wrap (BitVec.ofInt q.bits x&&&BitVec.ofInt q.bits y).toNat))
   |.or=>k (.int q (q.wrap (BitVec.ofInt q.bits x|||BitVec.ofInt q.bits y).toNat))
   |.xor=>k (.int q (q.wrap (BitVec.ofInt q.bits x^^^BitVec.ofInt q.bits y).toNat))
   |.andNot=>k (.int q (q.wrap (BitVec.ofInt q.bits x&&& ~~~(BitVec.ofInt q.bits y)).toNat))
   |.eql=>k (.bool (x==y))
   |.neq=>k (.bool (x !=y))
   |.lss=>k (.bool (decide (x<y)))
   |.leq=>k (.bool (decide (x≤y)))
   |.gtr=>k (.bool (decide (x>y)))
   |.geq=>k (.bool (decide (x≥y)))
   |_=>none
   else none
 |.pv (.str x),.pv (.str y)=>match op with
  |.add=>if E.lp.room (x.length+y.length)=true then k (.str (x++y))else none
  |.eql=>k (.bool (x==y))
  |.neq=>k (.bool (!(x==y)))
  |.lss=>k (.bool (Op.bytesLess x y))
  |.leq=>k (.bool (Op.bytesLess x y||x==y))
  |.gtr=>k (.bool (!(Op.bytesLess x y||x==y)))
  |.geq=>k (.bool (!(Op.bytesLess x y)))
  |_=>none
 |.pv (.bool x),.pv (.bool y)=>match op,E.P.underlying t with
  |.eql,some .bool=>k (.bool (x==y))
  |.neq,some .bool=>k (.bool (!(x==y)))
  |_,_=>none
 |.pv .ny,.pv .ny=>match op,E.P.underlying t with
  |.eql,some (.pointer _)=>k (.bool true)
  |.neq,some (.pointer _)=>k (.bool false)
  |_,_=>none
 |.fn _ _,.pv .xL|.pv (.fn _ _),.pv .xL=>match op,E.P.underlying t with
  |.eql,some (.func _ _ _)=>k (.bool false)
  |.neq,some (.func _ _ _)=>k (.bool true)
  |_,_=>none
 |.pv (.rp _),.pv .ny|.op _ _,.pv .ny|.oe _ _ _,.pv .ny=>match op,E.P.underlying t with
  |.eql,some (.pointer _)=>k (.bool false)
  |.neq,some (.pointer _)=>k (.bool true)
  |_,_=>none
 |a,b=>if aD E.P t then match pL E.P t,oa a,oa b with
  |some ks,some as,some bs=>match nZ (jj dd 1) as,nZ (jj dd 1) bs with
   |some as,some bs=>if gQ ks as=true∧gQ ks bs=true then match op with
    |.eql=>k (.bool (cA as bs))
    |.neq=>k (.bool (!(cA as bs)))
    |_=>none
    else none
   |_,_=>none
  |_,_,_=>none
  else none
def AK:Operand→Bool
 |.const .nilIface=>true
 |_=>false
def Qg(op:BinOp)(t:TypeId)(a:V)(k:PV→Option R):Option R:=
 match a with
 |.pv (.Tu b)=>match op,E.P.underlying t with
  |.eql,some (.interface _)=>k (.bool (!b))
  |.neq,some (.interface _)=>k (.bool b)
  |_,_=>none
 |_=>none
def F7(op:BinOp)(t:TypeId)(y:Operand)(a b:V)(k:PV→Option R):Option R:=bif AK y then Qg E op t a k else kE E op t a b k
noncomputable def agree(a b:Option R):Option R:= @ite _ (a=b) (Classical.propDecidable _) a none
noncomputable def IP(op:BinOp)(t:TypeId)(es:List PV)(k:Bool→Option R):Option R:=
 match op,E.P.underlying t with
 |.eql,some (.slice _)=>if es.isEmpty=true then agree (k true) (k false)else k false
 |.neq,some (.slice _)=>if es.isEmpty=true then agree (k false) (k true)else k true
 |_,_=>none
def xun(op:UnOp)(a:V)(k:PV→Option R):Option R:=
 match op,a with
 |.not,.pv (.bool b)=>k (.bool !b)
 |.neg,.pv (.int q n)=>k (.int q (q.wrap (0-n)))
 |.xor,.pv (.int q n)=>k (.int q (q.wrap (BitVec.ofInt q.bits (if q.signed then-1 else q.max)^^^BitVec.ofInt q.bits n).toNat))
 |_,_=>none
def AL(s d:TypeId)(a:V)(k:PV→Option R):Option R:=
 match E.P.underlying s,E.P.underlying d,a with
 |some (.int q),some (.int q'),.pv (.int q'' n)=>if q''=q then(if q'=q then k (.int q n)else k (.int q' (q'.wrap n)))else none
 |some .string,some .string,.pv (.str s)=>k (.str s)
 |_,_,_=>none
def qg(s:Nat)(t:TypeId)(e:PV)(off:Nat)(k:V→Option R):Option R:=
 if aD E.P t then(if off+aS E.P t≤s then k (.pv (.agg (((aK s e).drop off).take (aS E.P t))))else none)
 else match(aK s e)[off]? with
  |some p=>fJ E t p fun p=>k (.pv p)
  |none=>none
def pN:V→Option PV
 |.pv p=>some p
 |_=>none
def ob(own:Bool)(t:TypeId)(a:V)(m:Mem)(k:V→bp→Option R):Option R:=
 match a with
 |.pv (.rp cs)=>
  if aD E.P t then(if aS E.P t≤cs.length then k (.pv (.agg (cs.take (aS E.P t)))) []else none)
  else(cs.head?).bind fun p=>fJ E t p fun p=>k (.pv p) []
 |.op id off=>match m id with
  |some (.box cs)=>
   if aD E.P t then(if off+aS E.P t≤cs.length then k (.agg ((cs.drop off).take (aS E.P t))) [(false,id)]else none)
   else match nZ pN cs with
    |some ps=>(ps[off]?).bind fun p=>fJ E t p fun p=>k (.pv p) [(false,id)]
    |none=>match cs[off]? with
     |some v=>wF E t v fun v=>k v [(false,id)]
     |none=>none
  |_=>none
 |.oe id i off=>match m id with
  |some (.arr s _ es)=>(es[i]?).bind fun e=>qg E s t e off fun v=>k v [(false,id)]
  |some (.nM s _ es)=>(es[i]?).bind fun e=>qg E s t e off fun v=>k v [(false,id)]
  |some (.nest _ _ es)=>if aD E.P t then none else(es[i]?).bind fun e=>
   if own then(match E.P.underlying t with
    |some (.slice et)=>(aY (aS E.P et) (cell e off)).bind fun _=>k (.sY id i off) [(false,id)]
    |_=>none)
   else fJ E t (cell e off) fun p=>k (.pv p) [(false,id)]
  |_=>none
 |.wC id i off s j off2=>match m id with
  |some (.nest _ _ es)=>(es[i]?).bind fun e=>(aY s (cell e off)).bind fun rs=>(rs[j]?).bind fun q=>qg E s t q off2 fun v=>k v [(false,id)]
  |_=>none
 |_=>none
def over{T:Type}:List T→List T→List T
 |[],cs=>cs
 |x::new,[]=>x::over new []
 |x::new,_::cs=>x::over new cs
def bR{T:Type}:List T→Nat→List T→List T
 |cs,0,new=>over new cs
 |[],_+1,new=>new
 |c::cs,off+1,new=>c::bR cs off new
theorem Ej{T:Type}:∀(new cs:List T),over new cs=new++cs.drop new.length
 |[],cs=>by simp[over]
 |x::new,[]=>by simp[over,Ej new []]
 |x::new,_::cs=>by simp[over,Ej new cs]
theorem dB{T:Type}:∀(cs:List T)(off:Nat)(new:List T),bR cs off new=cs.take off++new++cs.drop (off+new.length)
 |cs,0,new=>by cases cs<;>simp[bR,Ej]
 |[],_+1,new=>by simp[bR]
 |c::cs,off+1,new=>by rw[bR,dB cs off new,show off+1+new.length=(off+new.length)+1 by omega];simp
def sZ(draw:Bool)(m:Mem)(n:Nat)(agg:Bool)(v:V):Option (PV×Mem):=if draw then(match iW dd n agg v with|some (p,_)=>some (p,m)|none=>none)else iW m n agg v
def setRow(s:Nat)(e:PV)(off:Nat)(p:PV):PV:=if s=1 then p else .agg ((aK s e).set off p)
def setCells(s:Nat)(e:PV)(off n:Nat)(p:PV):PV:=if off=0∧n=s then p else .agg (bR (aK s e) off p.cells)
def rN(draw:Bool)(t:TypeId)(a x:V)(m:Mem)(k:Mem→bp→Option R):Option R:=
 match a with
 |.op id off=>match m id with
  |some (.box cs)=>match toCells (aS E.P t) x with
   |some new=>if off+aS E.P t≤cs.length∧0<aS E.P t then k (an m id (.box (bR cs off new))) [(true,id)]else none
   |none=>none
  |_=>none
 |.oe id i off=>match sZ draw m (aS E.P t) (aD E.P t) x with
  |some (p,m)=>match m id with
   |some (.arr s et es)=>(es[i]?).bind fun e=>
    if off=0∧aS E.P t=s∧0<s then k (an m id (.arr s et (es.set i p))) [(true,id)]
    else if off+aS E.P t≤s∧0<aS E.P t∧1<s then k (an m id (.arr s et (es.set i (.agg (bR (aK s e) off p.cells))))) [(true,id)]
    else none
   |some (.nest s et es)=>(es[i]?).bind fun e=>if off+aS E.P t≤s∧0<aS E.P t∧1<s then k (an m id (.nest s et (es.set i (.agg (bR (aK s e) off p.cells))))) [(true,id)]else none
   |_=>none
  |none=>none
 |.wC id i off s j off2=>match iW dd (aS E.P t) (aD E.P t) x with
  |some (p,_)=>match m id with
   |some (.nest s0 et es)=>(es[i]?).bind fun e=>(aY s (cell e off)).bind fun rs=>(rs[j]?).bind fun q=>
    if off2+aS E.P t≤s∧0<aS E.P t∧off<s0 then k (an m id (.nest s0 et (es.set i (setRow s0 e off (.fP s (rs.set j (setCells s q off2 (aS E.P t) p))))))) [(true,id)]
    else none
   |_=>none
  |none=>none
 |_=>none
def zW(m:Mem)(x:V)(k:Nat→bp→Option R):Option R:=
 match x with
 |.pv (.rs _ es)=>k es.length []
 |.bj=>k 0 []
 |.fg id _ len=>match m id with
  |some (.arr _ _ _)=>k len [(false,id)]
  |some (.nM _ _ _)=>k len [(false,id)]
  |_=>none
 |.os id=>match m id with
  |some (.arr _ _ es)=>k es.length [(false,id)]
  |some (.nM _ _ es)=>k es.length [(false,id)]
  |some (.nest _ _ es)=>k es.length [(false,id)]
  |some (.box cs)=>if cs.length≤maxLen then k cs.length [(false,id)]else none
  |_=>none
 |_=>none
def NW(sz:Nat)(m:Mem)(x:V)(k:Nat→bp→Option R):Option R:=
 match x with
 |.sY id i off=>match m id with
  |some (.nest _ _ es)=>(es[i]?).bind fun e=>(aY sz (cell e off)).bind fun rs=>k rs.length [(false,id)]
  |_=>none
 |x=>zW m x k
def NX(m:Mem)(x:V)(k:Nat→bp→Option R):Option R:=
 match x with
 |.om id=>match m id with
  |some (.map _ es)=>if es.length≤maxLen then k es.length [(false,id)]else none
  |_=>none
 |.pv .sN=>k 0 []
 |_=>none
def F8(t:TypeId)(x:V)(m:Mem)(k:V→bp→Option R):Option R:=
 match E.P.underlying t with
 |some (.array n _)=>if n≤maxLen then k (.pv (.int .i64 n)) []else none
 |some .string=>match x with
  |.pv (.str s)=>k (.pv (.int .i64 s.length)) []
  |_=>none
 |some (.slice e)=>NW (aS E.P e) m x fun n ft=>k (.pv (.int .i64 n)) ft
 |some (.map _ _)=>NX m x fun n ft=>k (.pv (.int .i64 n)) ft
 |_=>none
def eH(m:Mem)(sz:Nat):V→Option (List PV×bp)
 |.pv (.rs s es)=>if s=sz then some (es,[])else match es with|[]=>some ([],[])|_=>none
 |.bj=>some ([],[])
 |.os id=>match m id with
  |some (.arr s' _ es)=>if s'=sz then some (es,[(false,id)])else none
  |some (.nM s' _ es)=>if s'=sz then some (es,[(false,id)])else none
  |_=>none
 |.fg id lo len=>match m id with
  |some (.arr s' _ es)=>if s'=sz then some ((es.drop lo).take len,[(false,id)])else none
  |some (.nM s' _ es)=>if s'=sz then some ((es.drop lo).take len,[(false,id)])else none
  |_=>none
 |.sY id i off=>match m id with
  |some (.nest _ _ es)=>(es[i]?).bind fun e=>(aY sz (cell e off)).bind fun rs=>some (rs,[(false,id)])
  |_=>none
 |_=>none
def Ek(m:Mem)(sz:Nat)(x:V)(k:List PV→bp→Option R):Option R:=
 match x with
 |.sY id i off=>match m id with
  |some (.nest _ _ es)=>(es[i]?).bind fun e=>(aY sz (cell e off)).bind fun rs=>k rs [(false,id)]
  |_=>none
 |x=>match eH m sz x with
  |some (es,ft)=>k es ft
  |none=>none
def xP:List PV→Option Bytes
 |[]=>some []
 |.int .u8 n::r=>(xP r).map fun b=>UInt8.ofNat n.toNat::b
 |_=>none
def xQ(s d:TypeId)(a:V)(m:Mem)(k:PV→bp→Option R):Option R:=
 match E.P.underlying s,E.P.underlying d with
 |some (.slice e),some .string=>match E.P.underlying e,eH m 1 a with
  |some (.int .u8),some (es,ft)=>(xP es).bind fun b=>k (.str b) ft
  |_,_=>none
 |_,_=>AL E s d a fun p=>k p []
def af(i:Int)(n:Nat):Prop:=0≤i∧i<(n:Int)
instance (i:Int) (n:Nat):Decidable (af i n):=inferInstanceAs (Decidable (_∧_))
def dx(t:TypeId)(x ix:V)(m:Mem)(k:V→bp→Option R):Option R:=
 match ix with
 |.pv (.int _ i)=>match E.P.underlying t,x with
  |some (.slice e),.pv (.rs s es)=>if s=aS E.P e∧0<s then(aZ es i).bind fun p=>k (.pv (.rp (aK s p))) []else none
  |some (.slice e),.os id=>match m id with
   |some (.arr s _ es)=>if s=aS E.P e∧0<s then(if af i es.length then k (.oe id i.toNat 0) [(false,id)]else none)else none
   |some (.nM s _ es)=>if s=aS E.P e∧0<s then(if af i es.length then k (.oe id i.toNat 0) [(false,id)]else none)else none
   |some (.nest s _ es)=>if s=aS E.P e∧0<s then(if af i es.length then k (.oe id i.toNat 0) [(false,id)]else none)else none
   |some (.box cs)=>if aS E.P e=1∧af i cs.length then k (.op id i.toNat) [(false,id)]else none
   |_=>none
  |some (.slice e),.sY id i0 off=>match m id with
   |some (.nest _ _ es)=>if 0<aS E.P e then(es[i0]?).bind fun e0=>(aY (aS E.P e) (cell e0 off)).bind fun rs=>if af i rs.length then k (.wC id i0 off (aS E.P e) i.toNat 0) [(false,id)]else none else none
   |_=>none
  |some (.slice e),.fg id lo len=>match m id with
   |some (.arr s _ _)=>if s=aS E.P e∧0<s then(if af i len then k (.oe id (lo+i.toNat) 0) [(false,id)]else none)else none
   |some (.nM s _ _)=>if s=aS E.P e∧0<s then(if af i len then k (.oe id (lo+i.toNat) 0) [(false,id)]else none)else none
   |_=>none
  |some (.array n e),.op id off=>if af i n∧0<aS E.P e then k (.op id (off+i.toNat*aS E.P e)) []else none
  |some (.array n e),.pv (.rp cs)=>if af i n∧0<aS E.P e then k (.pv (.rp (cs.drop (i.toNat*aS E.P e)))) []else none
  |some (.array n e),.oe id j off=>if af i n∧0<aS E.P e then k (.oe id j (off+i.toNat*aS E.P e)) []else none
  |_,_=>none
 |_=>none
def wG(s:TypeId)(j:Nat):Option (Nat×TypeId):=
 match E.P.underlying s with
 |some (.struct fs)=>match fs[j]? with
  |some f=>if aS E.P f.type=0 then none else some (f.offset,f.type)
  |none=>none
 |_=>none
def iI(s:TypeId)(x:V)(j:Nat)(k:V→Option R):Option R:=
 match wG E s j with
 |some (o,_)=>match x with
  |.pv (.rp cs)=>k (.pv (.rp (cs.drop o)))
  |.op id off=>k (.op id (off+o))
  |.oe id i off=>k (.oe id i (off+o))
  |.wC id i off s j off2=>k (.wC id i off s j (off2+o))
  |_=>none
 |none=>none
def AM(t:TypeId)(cs:List V)(off:Nat)(k:V→Option R):Option R:=
 if aD E.P t then(if off+aS E.P t≤cs.length then k (.agg ((cs.drop off).take (aS E.P t)))else none)
 else match cs[off]? with
  |some v=>wF E t v k
  |none=>none
def AN(s:TypeId)(x:V)(j:Nat)(k:V→Option R):Option R:=
 match wG E s j,oa x with
 |some (o,t),some cs=>AM E t cs o k
 |_,_=>none
def xR(t:TypeId)(x ix:V)(k:V→Option R):Option R:=
 match ix with
 |.pv (.int _ i)=>match E.P.underlying t,x with
  |some .string,.pv (.str s)=>(NU s i).bind fun b=>k (.pv (.int .u8 b.toNat))
  |some (.array n et),x=>match oa x with
   |some cs=>if af i n∧0<aS E.P et then AM E et cs (i.toNat*aS E.P et) k else none
   |none=>none
  |_,_=>none
 |_=>none
def im(d:Int):Option V→Option Int
 |none=>some d
 |some (.pv (.int _ i))=>some i
 |_=>none
def rO(t:TypeId)(x:V)(lo hi mx:Option V)(m:Mem)(k:V→bp→Option R):Option R:=
 match mx with
 |some mx=>match E.P.underlying t,x with
  |some (.slice e),.os id=>match m id with
   |some (.arr s _ es)=>match lo,hi,mx with
    |none,some (.pv (.int _ h)),.pv (.int _ c)=>if 0≤h∧h≤c∧c≤(es.length:Int)∧s=aS E.P e then k (.fg id 0 h.toNat) [(false,id)]else none
    |_,_,_=>none
   |_=>none
  |_,_=>none
 |none=>match E.P.underlying t,x with
  |some .string,.pv (.str s)=>match im 0 lo,im s.length hi with
   |some l,some h=>if 0≤l∧l≤h∧h≤(s.length:Int)then k (.pv (.str ((s.take h.toNat).drop l.toNat))) []else none
   |_,_=>none
  |some (.slice e),.pv (.rs sz es)=>match im 0 lo,im es.length hi with
   |some l,some h=>if 0≤l∧l≤h∧h≤(es.length:Int)∧sz=aS E.P e∧aS E.P e≠0 then k (.pv (.rs sz ((es.take h.toNat).drop l.toNat))) []else none
   |_,_=>none
  |some (.slice e),.os id=>match m id with
   |some (.arr s _ es)=>match im 0 lo,im es.length hi with
    |some l,some h=>if 0≤l∧l≤h∧h≤(es.length:Int)∧s=aS E.P e then k (.fg id l.toNat (h.toNat-l.toNat)) [(false,id)]else none
    |_,_=>none
   |some (.nM s _ es)=>match im 0 lo,im es.length hi with
    |some l,some h=>if 0≤l∧l≤h∧h≤(es.length:Int)∧s=aS E.P e then k (.fg id l.toNat (h.toNat-l.toNat)) [(false,id)]else none
    |_,_=>none
   |_=>none
  |_,_=>none
def placesOf(fs:List Field)(j:Nat):Option (Nat×Nat):=(fs[j]?).map fun f=>(f.offset,aS E.P f.type)
def C5(place:Nat→Option (Nat×Nat))(cs:List V):List (Nat×V)→Option (List V)
 |[]=>some cs
 |(i,v)::rest=>match place i with
  |some (off,size)=>match toCells size v with
   |some new=>if off+size≤cs.length then C5 place (bR cs off new) rest else none
   |none=>none
  |none=>none
def dg(t:TypeId):Option (List V):=match zeroV E.P t with|some v=>toCells (aS E.P t) v|none=>none
def xS(t:TypeId)(parts:List (Nat×V))(k:V→Option R):Option R:=
 match dg E t,E.P.underlying t with
 |some z,some (.struct fs)=>if fs.toList.all (fun f=>(E.P.info? f.type).isSome)then match C5 (placesOf E fs.toList) z parts with
  |some cs=>k (.agg cs)
  |none=>none
  else none
 |some z,some (.array _ e)=>if 0<aS E.P e then match C5 (fun i=>some (i*aS E.P e,aS E.P e)) z parts with
  |some cs=>k (.agg cs)
  |none=>none
  else none
 |_,_=>none
def ey(m:Mem)(n:Nat)(agg:Bool):Nat→List (Nat×V)→Option (List PV×Mem)
 |_,[]=>some ([],m)
 |i,(j,v)::r=>if i=j then match iW m n agg v with
  |some (p,m)=>match ey m n agg (i+1) r with
   |some (ps,m)=>some (p::ps,m)
   |none=>none
  |none=>none
  else none
def AO:Nat→List (Nat×V)→Option (List V)
 |_,[]=>some []
 |i,(j,v)::r=>if i=j then match toCells 1 v with
  |some cs=>match AO (i+1) r with
   |some us=>some (cs++us)
   |none=>none
  |none=>none
  else none
def Mm(t:TypeId):Bool:=match E.P.underlying t with|some (.func _ _ _)=>true|_=>false
def xT(t:TypeId):Option PV:=match zeroV E.P t with
 |some v=>match jj dd 2 v with
  |some p=>if aD E.P t=p.isAgg∧p.cells.length=aS E.P t∧p.plain=true then some p else none
  |none=>none
 |none=>none
def keyOf(kt:TypeId)(v:V):Option PV:=
 match pL E.P kt with
 |some ks=>
  if aD E.P kt then(match oa v with
   |some cs=>match nZ (jj dd 1) cs with
    |some ps=>if gQ ks ps then some (.agg ps)else none
    |none=>none
   |none=>none)
  else match v with
   |.pv p=>if gQ ks [p]then some p else none
   |_=>none
 |none=>none
def F9(site:Nat)(t:TypeId)(x ix:V)(m:Mem)(k:V→Mem→bp→Option R):Option R:=
 match E.P.underlying t with
 |some (.map kt et)=>match E.P.underlying et with
  |some (.slice e)=>match x,zeroV E.P et with
   |.om id,some .bj=>match m id,m site with
    |some (.eU sQ e' es),none=>if sQ=kt∧e'=e∧0<aS E.P e then(keyOf E kt ix).bind fun key=>(F5 (aS E.P e) key es).bind fun rs=>k (.os site) (an (an m id (.eU kt e (pK key es))) site (.arr (aS E.P e) e rs)) [(true,id),(true,site)]else none
    |_,_=>none
   |_,_=>none
  |_=>none
 |_=>none
def rP(t:TypeId)(x ix:V)(ok:Bool)(m:Mem)(k:V→bp→Option R):Option R:=
 match E.P.underlying t with
 |some (.map kt et)=>match xT E et with
  |some z=>match x with
   |.om id=>match m id with
    |some (.map sQ es)=>if sQ=kt then(keyOf E kt ix).bind fun key=>fJ E et (dK key z es) fun v=>k (if ok then .bm [.pv v,.pv (.bool (sO key es))]else .pv v) [(false,id)]else none
    |_=>none
   |.pv p=>dP kt p ((keyOf E kt ix).bind fun _=>k (if ok then .bm [.pv z,.pv (.bool false)]else .pv z) []) fun ks vs=>(keyOf E kt ix).bind fun key=>fJ E et (dK key z (ks.zip vs)) fun v=>k (if ok then .bm [.pv v,.pv (.bool (sO key (ks.zip vs)))]else .pv v) []
   |_=>none
  |none=>none
 |_=>none
def wH(draw:Bool)(m:Mem)(v:V):Option (PV×Mem):=if draw then(match rL dd v with|some (p,_)=>some (p,m)|none=>none)else rL m v
def lX(draw:Bool)(t:TypeId)(x key val:V)(m:Mem)(k:Mem→bp→Option R):Option R:=
 match E.P.underlying t with
 |some (.map kt _)=>match x with
  |.om id=>match wH draw m val with
   |some (v,m)=>match m id with
    |some (.map sQ es)=>if sQ=kt then(keyOf E kt key).bind fun key=>k (an m id (.map kt (eO key v es))) [(true,id)]else none
    |_=>none
   |none=>none
  |_=>none
 |_=>none
def aa:Nat:=140737488355328
def ju(m:Mem):Nat→List V→Option (List PV×Option (Nat×Nat))
 |_,[]=>some ([],none)
 |j,.os id::r=>match m id with
  |some (.arr s _ es)=>match ju m (j+1) r with
   |some (ps,none)=>some (.fP s es::ps,some (j,id))
   |_=>none
  |_=>none
 |j,v::r=>match jj dd 1 v with
  |some p=>match ju m (j+1) r with
   |some (ps,t)=>some (p::ps,t)
   |none=>none
  |none=>none
def elemOf(agg:Bool)(ps:List PV):Option PV:=if agg then some (.agg ps)else match ps with|[p]=>some p|_=>none
inductive Sp where
 |st (id i off s:Nat) (et:TypeId) (es ps:List PV) (id2:Nat)
 |app (id s:Nat) (et:TypeId) (es new:List PV) (src:Option Nat) (rd:bp)
 |lit (s:Nat) (et:TypeId) (p:PV) (id2:Nat)
 |Ga (id:Nat) (kt e:TypeId) (es:List (PV×PV)) (key:PV) (s:Nat) (rs:List PV) (id2:Nat)
def vJ(site:Nat)(o:Oper)(f:Fr)(m:Mem):Option Sp:=
 match o.op with
 |.store t a x=>match bB E f a with
  |.oe id i off=>match m id with
   |some (.nest s et es)=>match toCells (aS E.P t) (bB E f x)with
    |some cs=>match ju m 0 cs with
     |some (ps,some (_,id2))=>if off+aS E.P t≤s&&0<aS E.P t&& !(Nat.beq id2 id)then some (.st id i off s et es ps id2)else none
     |_=>none
    |none=>none
   |_=>none
  |_=>none
 |.buildSlice t len parts=>match E.P.underlying t,parts.toList.map fun(i,x)=>(i,bB E f x)with
  |some (.slice e),[(0,v)]=>match toCells (aS E.P e) v with
   |some cs=>match ju m 0 cs,m site with
    |some (ps,some (_,id2)),none=>match elemOf (aD E.P e) ps with
     |some p=>if Nat.beq len 1&&0<aS E.P e&&aS E.P e≤16777216&&(dg E e).isSome then some (.lit (aS E.P e) e p id2)else none
     |none=>none
    |_,_=>none
   |none=>none
  |_,_=>none
 |.call c=>match c.callee,c.args.toList.map (bB E f),c.argTypes.toList with
  |.builtin .append,[.os id,x],[t,t']=>match E.P.underlying t,m id with
   |some (.slice e),some (.nest s et es)=>if et=e&&s=aS E.P e&&decide (t'=t)&&(dg E e).isSome&&0<aS E.P e&&0<CJ E.P e then(match x with
    |.os nA=>match m nA with
     |some (.nest s' AP new)=>if Nat.beq s' s&&decide (AP=et)&& !(Nat.beq nA id)then some (.app id s et es new (some nA) [])else none
     |_=>match eH m s x with
      |some (new,rd)=>if x.has id then none else some (.app id s et es new none rd)
      |none=>none
    |_=>match eH m s x with
     |some (new,rd)=>if x.has id then none else some (.app id s et es new none rd)
     |none=>none)else none
   |_,_=>none
  |_,_,_=>none
 |.mapUpdate t x key v=>match E.P.underlying t,bB E f x,bB E f v with
  |some (.map kt _),.om id,.os id2=>match m id,m id2,keyOf E kt (bB E f key)with
   |some (.eU sQ e es),some (.arr s e' rs),some key=>if decide (sQ=kt)&&decide (e'=e)&&Nat.beq s (aS E.P e)then some (.Ga id kt e es key s rs id2)else none
   |_,_,_=>none
  |_,_,_=>none
 |_=>none
def Sp.info(site:Nat):Sp→Kl×bp
 |.st id _ _ _ _ _ _ id2=>([(true,id2),(false,id)],[(true,id),(true,id2)])
 |.app id _ _ _ _ (some id2) _=>([(true,id2),(true,id)],[(true,id),(true,id2)])
 |.app id _ _ _ _ none rd=>([(true,id)],(true,id)::rd)
 |.lit _ _ _ id2=>([(true,id2)],[(true,site),(true,id2)])
 |.Ga id _ _ _ _ _ _ id2=>([(true,id2),(false,id)],[(true,id),(true,id2)])
def VG(site:Nat)(sp:Sp)(f:Fr)(m:Mem)(k:V→Fr→Mem→bp→Option R):Option R:=
 match sp with
 |.st id i off s et es ps id2=>(es[i]?).bind fun e=>k .top (kf [(true,id2),(false,id)] f) (qK [(id,.nest s et (es.set i (if s=1 then ps.headD .bad else .agg (bR (aK s e) off ps))))] (km [(true,id2),(false,id)] m)) [(true,id),(true,id2)]
 |.app id s et es new src rd=>if(es++new).length*CJ E.P et≤aa then k (.os id) (kf (Sp.app id s et es new src rd|>.info site).1 f) (qK [(id,.nest s et (es++new))] (km (Sp.app id s et es new src rd|>.info site).1 m)) (Sp.app id s et es new src rd|>.info site).2 else none
 |.lit s et p id2=>k (.os site) (kf [(true,id2)] f) (qK [(site,.nest s et [p])] (km [(true,id2)] m)) [(true,site),(true,id2)]
 |.Ga id kt e es key s rs id2=>k .top (kf [(true,id2),(false,id)] f) (qK [(id,.eU kt e (eO key (.fP s rs) es))] (km [(true,id2),(false,id)] m)) [(true,id),(true,id2)]
def wI(draw:Bool)(site:Nat)(t t':TypeId)(s x:V)(f:Fr)(m:Mem)(k:V→Fr→Mem→Option R):Option R:=
 if draw|| !(decide (t'=t))then none else
 match E.P.underlying t with
 |some (.slice e)=>if(dg E e).isNone then none else match eH m (aS E.P e) x with
  |some (new,_)=>match s with
   |.bj=>if new.length*CJ E.P e≤aa∧0<CJ E.P e∧0<aS E.P e then fresh draw site (.arr (aS E.P e) e new) f m (fun f m _=>k (.os site) f m)else none
   |.os id=>match m id with
    |some (.arr sz et es)=>if et=e∧sz=aS E.P e∧x.has id=false then(if(es++new).length*CJ E.P e≤aa∧0<CJ E.P e then fresh draw id (.arr sz e (es++new)) (eP id f) (bf (bC id m) id) (fun f m _=>k (.os id) f m)else none)else none
    |_=>none
   |_=>none
  |none=>none
 |_=>none
def Gb(t:TypeId)(d x:V)(m:Mem)(k:V→Mem→bp→Option R):Option R:=
 match E.P.underlying t with
 |some (.slice e)=>match d with
  |.os id=>match m id with
   |some (.arr sz et es)=>if sz=aS E.P e∧x.has id=false then Ek m sz x fun new ft=>k (.pv (.int .i64 (min new.length es.length:Nat))) (an m id (.arr sz et (new.take es.length++es.drop new.length))) ((true,id)::ft)else none
   |_=>none
  |_=>none
 |_=>none
def AQ(t:TypeId)(x:V)(m:Mem)(k:V→Mem→bp→Option R):Option R:=
 match E.P.underlying t with
 |some (.slice e)=>match x,xT E e with
  |.fg id lo len,some z=>match m id with
   |some (.arr sz et es)=>if sz=aS E.P e∧et=e∧lo+len≤es.length∧0<aS E.P e then k .top (an m id (.arr sz et (es.take lo++(List.replicate len z++es.drop (lo+len))))) [(true,id)]else none
   |_=>none
  |_,_=>none
 |_=>none
def oc(draw:Bool)(site:Nat)(t:TypeId)(len cap:V)(f:Fr)(m:Mem)(k:V→Fr→Mem→bp→Option R):Option R:=
 match E.P.underlying t,len,cap with
 |some (.slice e),.pv (.int _ n),.pv (.int _ c)=>match xT E e with
  |some z=>if 0≤n∧n≤c∧c.toNat*CJ E.P e≤aa∧0<CJ E.P e∧0<aS E.P e then fresh draw site (.arr (aS E.P e) e (List.replicate n.toNat z)) f m (fun f m ft=>k (.os site) f m ft)else none
  |none=>none
 |_,_,_=>none
def Gc(a b:V)(k:PV→Option R):Option R:=match a,b with
 |.pv (.int q x),.pv (.int q' y)=>if q=q' then k (.int q (if y<x then y else x))else none
 |_,_=>none
def yZ(a b:V)(k:PV→Option R):Option R:=match a,b with
 |.pv (.int q x),.pv (.int q' y)=>if q=q' then k (.int q (if y>x then y else x))else none
 |_,_=>none
def Gd(a b c d:V)(k:PV→Option R):Option R:=yZ a b fun p=>yZ (.pv p) c fun p=>yZ (.pv p) d k
def uy(t:TypeId):Bool:=match E.P.underlying t with|some (.int _)|some .bool|some .string=>true|_=>false
def gB(m:Mem):List V→Option (List PV×Mem)
 |[]=>some ([],m)
 |v::r=>match rL m v with
  |some (p,m)=>match gB m r with
   |some (ps,m)=>some (p::ps,m)
   |none=>none
  |none=>none
def C6:PV→PV
 |.int q n=>.int q n
 |.bool b=>.bool b
 |.str s=>.str s
 |_=>.bad
def sC(draw:Bool)(site:Nat)(fid:FuncId)(args:List V)(f:Fr)(m:Mem)(k:V→Fr→Mem→bp→Option R):Option R:=
 match E.ctx fid with
 |some M=>match E.P.funcs[fid]? with
  |some fn=>
   if fn.resultTypes.toList.all (uy E)then(match nZ (jj m eG) args with
     |some ps=>(M ps).bind fun r=>yY E fn.resultTypes.toList r fun v=>k v f m ((gA (cY m eG) args).map fun i=>(false,i))
     |none=>none)
   else(match gB (if draw then dd else m) args with
     |some (ps,m')=>(M ps).bind fun r=>xO E fid fn.resultTypes.toList r fun v=>k v f (if draw then m else m') (if draw then[]else[(true,0)])
     |none=>none)
  |none=>none
 |none=>match E.own fid with
  |some M=>match E.P.funcs[fid]? with
   |some fn=>match fn.resultTypes.toList with
    |[t]=>match E.P.underlying t with
     |some (.slice e)=>if uy E e=true∧aS E.P e=1 then(match nZ (jj m eG) args with
      |some ps=>(M ps).bind fun r=>(ab (aS E.P e) r).bind fun es=>fresh draw site (.arr (aS E.P e) e (es.map C6)) f m fun f m1 ft=>k (.os site) f m1 (ft++(gA (cY m eG) args).map fun i=>(false,i))
      |none=>none)
      else match gB (if draw then dd else m) args with
      |some (ps,m')=>(M ps).bind fun r=>(ab (aS E.P e) r).bind fun es=>fresh draw site (.arr (aS E.P e) e es) f (if draw then m else m') fun f m ft=>k (.os site) f m ft
      |none=>none
     |_=>none
    |_=>none
   |none=>none
  |none=>if draw then none else E.inl R fid (site*4096+fid) args f m fun v f m=>k v f m [(true,0)]
def Qh(f:TypeId→Option (List TypeId)):List Field→Option (List TypeId)
 |[]=>some []
 |x::r=>(f x.type).bind fun a=>(Qh f r).bind fun b=>some (a++b)
def Qi(l:List TypeId):Nat→List TypeId
 |0=>[]
 |n+1=>l++Qi l n
def AR(P:Program):Nat→TypeId→Option (List TypeId)
 |0,_=>none
 |d+1,t=>match P.underlying t with
  |some (.struct fs)=>Qh (AR P d) fs.toList
  |some (.array n e)=>(AR P d e).bind fun l=>some (Qi l n)
  |some _=>some [t]
  |none=>none
def sD(n:Nat)(args:List V)(f:Fr):Fr:=fun t=>bif Nat.blt t n then args.getD t .top else f (t-n)
def s9(n:Nat)(f:Fr):Fr:=fun t=>f (t+n)
def Qj:V→Bool
 |.bj=>true
 |_=>false
def qO(site j:Nat):Nat:=site+(j+1)*1606938044258990275541962092341162602522202993782792835301376
def uz(E:Env){R:Type}(site:Nat):List TypeId→Nat→Fr→Mem→(Fr→Mem→Option R)→Option R
 |[],_,F,m,k=>k F m
 |t::ts,j,F,m,k=>match F j with
  |.bj=>match E.P.underlying t with
   |some (.slice e)=>if 0<aS E.P e then fresh false (qO site j) (.arr (aS E.P e) e []) F m fun F m _=>uz E site ts (j+1) (fh F j (.os (qO site j))) m k else none
   |_=>none
  |_=>uz E site ts (j+1) F m k
def ZC(E:Env)(t:TypeId):Bool:=match E.P.underlying t with|some (.slice _)=>true|_=>false
def El(f:Fr):Option Operand→Bool
 |none=>true
 |some x=>match bB E f x with|.pv (.int _ _)=>true|_=>false
noncomputable def pO(n:Nat)(g:Nat→Option R):Option R:= @dite _ (∃r,∀i,i<n→g i=some r) (Classical.propDecidable _) (fun h=>some (Classical.choose h)) fun _=>none
def IQ(site:Nat)(t:TypeId)(x:V)(f:Fr)(m:Mem)(k:V→Fr→Mem→Option R):Option R:=
 match E.P.underlying t with
 |some (.map kt _)=>match x with
  |.om id=>match m id with
   |some (.map sQ es)=>if sQ=kt then fresh false site (.iter t es none) (eP id f) (bf (bC id m) id) fun f m _=>k (.it site) f m else none
   |_=>none
  |_=>none
 |_=>none
noncomputable def Qk(x:V)(f:Fr)(m:Mem)(k:V→Fr→Mem→Option R):Option R:=
 match x with
 |.it id=>match m id with
  |some (.iter t es _)=>match E.P.underlying t with
   |some (.map kt et)=>if es.isEmpty=true then k (.bm [.pv (.bool false)]) f m else pO es.length fun i=>(es[i]?).bind fun e=>fJ E kt e.1 fun a=>fJ E et e.2 fun b=>k (.bm [.pv (.bool true),.pv a,.pv b]) f (an m id (.iter t (es.eraseIdx i) (some (a,b))))
   |_=>none
  |_=>none
 |_=>none
def IU(x:V)(m:Mem)(k:V→Mem→Option R):Option R:=
 match x with
 |.it id=>match m id with
  |some (.iter t es (some (a,b)))=>k (.bm [.pv a,.pv b]) (an m id (.iter t es none))
  |_=>none
 |_=>none
def IV:Op→Bool
 |.range .. =>true
 |.next .. =>true
 |.entry .. =>true
 |_=>false
noncomputable def cX(draw:Bool)(site:Nat)(o:Oper)(f:Fr)(m:Mem)(k:V→Fr→Mem→bp→Option R):Option R:=
 match o.op with
 |.move x=>k (bB E f x) f m []
 |.assign x=>match bB E f x with
  |.bj=>match E.P.underlying o.type with
   |some (.slice e)=>if 0<aS E.P e then fresh draw site (.arr (aS E.P e) e []) f m fun f m ft=>k (.os site) f m ft else none
   |_=>k .bj f m []
  |v=>k v f m []
 |.pick c a b=>match bB E f c with
  |.pv (.bool t)=>if t then k (bB E f a) f m []else k (bB E f b) f m []
  |_=>none
 |.alloc t=>match dg E t with
  |some cs=>if !draw&&ZC E t then uz E site [t] 0 (sD cs.length cs f) m fun F m=>fresh false site (.box ((List.range cs.length).map F)) (s9 cs.length F) m fun f m ft=>k (.op site 0) f m ft else fresh draw site (.box cs) f m fun f m ft=>k (.op site 0) f m ft
  |none=>none
 |.box t x=>match toCells (aS E.P t) (bB E f x)with
  |some cs=>if !draw&&cs.any Qj then(match AR E.P 8 t with
   |some ts=>if ts.length=cs.length then uz E site ts 0 (sD cs.length cs f) m fun F m=>fresh false site (.box ((List.range cs.length).map F)) (s9 cs.length F) m fun f m ft=>k (.op site 0) f m ft else none
   |none=>none)else fresh draw site (.box cs) f m fun f m ft=>k (.op site 0) f m ft
  |none=>none
 |.build t parts=>xS E t (parts.toList.map fun(i,x)=>(i,bB E f x)) fun v=>k v f m []
 |.buildSlice t len parts=>match E.P.underlying t with
  |some (.slice e)=>if Mm E e then(match AO 0 (parts.toList.map fun(i,x)=>(i,bB E f x))with
   |some cs=>if parts.size=len∧aS E.P e=1∧len≤16777216∧(dg E e).isSome=true then fresh draw site (.box cs) f m fun f m ft=>k (.os site) f m ft else none
   |none=>none)
   else if E.yW (site+1000000000000000000000000000000)then(match ey dd (aS E.P e) (aD E.P e) 0 (parts.toList.map fun(i,x)=>(i,bB E f x))with
   |some (es,_)=>if es.length=len∧0<aS E.P e∧len*aS E.P e≤16777216∧(dg E e).isSome=true then k (.pv (.rs (aS E.P e) es)) f m []else none
   |none=>none)
   else match ey (if draw then dd else m) (aS E.P e) (aD E.P e) 0 (parts.toList.map fun(i,x)=>(i,bB E f x))with
   |some (es,m1)=>if es.length=len∧0<aS E.P e∧len*aS E.P e≤16777216∧(dg E e).isSome=true then fresh draw site (.arr (aS E.P e) e es) f (if draw then m else m1) fun f m ft=>k (.os site) f m ft else none
   |none=>none
  |_=>none
 |.load t a=>ob E (E.yW site) t (bB E f a) m fun v ft=>k v f m ft
 |.store t a x=>rN E draw t (bB E f a) (bB E f x) m fun m ft=>k .top f m ft
 |.nilCheck x=>match bB E f x with
  |.pv (.rp cs)=>k (.pv (.rp cs)) f m []
  |.op id off=>k (.op id off) f m []
  |.oe id i off=>k (.oe id i off) f m []
  |.wC id i off s j off2=>k (.wC id i off s j off2) f m []
  |.fn g cs=>k (.fn g cs) f m []
  |.pv (.fn g cs)=>k (.pv (.fn g cs)) f m []
  |_=>none
 |.binOp op t x y _=>match bB E f x,bB E f y with
  |.pv (.rs _ es),.bj=>if draw then none else IP E op t es fun b=>k (.pv (.bool b)) f m [(true,0)]
  |a,b=>F7 E op t y a b fun p=>k (.pv p) f m []
 |.unOp op _ x=>xun op (bB E f x) fun p=>k (.pv p) f m []
 |.convert s d x=>xQ E s d (bB E f x) m fun p ft=>k (.pv p) f m ft
 |.makeFunc (.func g) first lU=>if first.isEmpty then k (.fn g (lU.toList.map (bB E f))) f m []else none
 |.makeMap t hint=>if El E f hint=true then match E.P.underlying t with
  |some (.map kt et)=>if(pL E.P kt).isSome then(if E.yW site then(match E.P.underlying et with
   |some (.slice e)=>fresh draw site (.eU kt e []) f m fun f m ft=>k (.om site) f m ft
   |_=>none)
   else fresh draw site (.map kt []) f m fun f m ft=>k (.om site) f m ft)else none
  |_=>none
  else none
 |.makeSlice t l c=>oc E draw site t (bB E f l) (bB E f c) f m k
 |.slice t x lo hi mx=>rO E t (bB E f x) (lo.map (bB E f)) (hi.map (bB E f)) (mx.map (bB E f)) m fun v ft=>k v f m ft
 |.fieldAddr s x j=>iI E s (bB E f x) j fun v=>k v f m []
 |.field s x j=>AN E s (bB E f x) j fun v=>k v f m []
 |.indexAddr t x ix=>dx E t (bB E f x) (bB E f ix) m fun v ft=>k v f m ft
 |.index t x ix=>xR E t (bB E f x) (bB E f ix) fun v=>k v f m []
 |.lookup t x ix ok=>if E.yW site&& !ok then F9 E site t (bB E f x) (bB E f ix) m fun v m ft=>k v f m ft else rP E t (bB E f x) (bB E f ix) ok m fun v ft=>k v f m ft
 |.mapUpdate t x key v=>lX E draw t (bB E f x) (bB E f key) (bB E f v) m fun m ft=>k .top f m ft
 |.insert t x key v=>lX E draw t (bB E f x) (bB E f key) (bB E f v) m fun m ft=>k .top f m ft
 |.range t x=>if draw then none else IQ E site t (bB E f x) f m fun v f m=>k v f m [(true,0)]
 |.next x s=>if draw||s then none else Qk E (bB E f x) f m fun v f m=>k v f m [(true,0)]
 |.entry x=>if draw then none else IU (bB E f x) m fun v m=>k v f m [(true,0)]
 |.extract t i=>match bB E f t with
  |.bm vs=>match vs[i]? with
   |some v=>k v f m []
   |none=>none
  |_=>none
 |.call c=>match c.callee,c.args.toList.map (bB E f)with
  |.builtin .len,[x]=>match c.argTypes.toList with
   |[t]=>F8 E t x m fun v ft=>k v f m ft
   |_=>none
  |.builtin .append,[s,x]=>match c.argTypes.toList with
   |[t,t']=>wI E draw site t t' s x f m fun v f m=>k v f m [(true,0)]
   |_=>none
  |.builtin .copy,[d,x]=>match c.argTypes.toList with
   |t::_=>Gb E t d x m fun v m ft=>k v f m ft
   |_=>none
  |.builtin .clear,[x]=>match c.argTypes.toList with
   |t::_=>AQ E t x m fun v m ft=>k v f m ft
   |_=>none
  |.builtin .min,[a,b]=>Gc a b fun p=>k (.pv p) f m []
  |.builtin .max,[a,b]=>yZ a b fun p=>k (.pv p) f m []
  |.builtin .max,[a,b,c,d]=>Gd a b c d fun p=>k (.pv p) f m []
  |.value (.func g),args=>sC E draw site g args f m k
  |.value (.tmp t),args=>match bB E f (.tmp t)with
   |.fn g lU=>sC E draw site g (args++lU) f m k
   |.pv (.fn g lU)=>sC E draw site g (args++lU.map .pv) f m k
   |.yl id=>if draw then none else E.yl R E.fn.ntmps site id args f m fun v f m=>k v f m [(true,0)]
   |_=>none
  |_,_=>none
 |_=>none
noncomputable def Ge(draw:Bool)(site:Nat)(o:Oper)(f:Fr)(m:Mem)(k:V→Fr→Mem→bp→Option R):Option R:=
 match(bif draw then none else bif E.yW site then vJ E site o f m else none)with
 |some sp=>VG E site sp f m k
 |none=>cX E draw site o f m k
def eV(o:Oper):Bool:=
 match o.op with
 |.move _|.assign _|.pick .. |.load .. |.nilCheck _|.binOp .. |.unOp .. |.convert .. |.slice .. |.fieldAddr .. |.field .. |.indexAddr .. |.index .. |.lookup .. |.extract .. |.build .. =>true
 |.call {callee:=.builtin .len,.. }|.call {callee:=.builtin .min,.. }|.call {callee:=.builtin .max,.. }=>true
 |.call {callee:=.value _,.. }=>true
 |_=>false
def wJ:bp→Bool
 |[]=>true
 |(w,_)::r=> !w&&wJ r
abbrev Log:=List (Nat×Bool×Nat)
def AS(o:Oper)(j:Nat):Bool:=o.after.toList.any fun e=>Region.binds .any e&&Nat.beq e.on j
mutual
def V.ids:V→List Nat
 |.agg cs=>Gf cs
 |.bm cs=>Gf cs
 |.fn _ cs=>Gf cs
 |.os j=>[j]
 |.fg j _ _=>[j]
 |.oe j _ _=>[j]
 |.om j=>[j]
 |.sY j _ _=>[j]
 |.wC j _ _ _ _ _=>[j]
 |.op j _=>[j]
 |.yl j=>[j]
 |.it j=>[j]
 |_=>[]
def Gf:List V→List Nat
 |[]=>[]
 |v::r=>v.ids++Gf r
end
def AU:Option bJ→List Nat
 |some (.box cs)=>Gf cs
 |_=>[]
def uA(n:Nat):Nat:=n+2037035976334486086268445688409378161051468393665936250636140449354381299763336706183397376
def Em(m m':Mem):bp→List Nat
 |[]=>[]
 |x::r=>AU (m x.2)++AU (m' x.2)++Em m m' r
def An(ops:Array Oper)(o:Oper)(f:Fr)(m m':Mem)(v:V)(ft:bp):List Nat:=Gf ((o.looksAt ops).map f)++v.ids++Em m m' ft
def cF(E:Env)(d:Option Nat):Nat:=match d with|some d=>E.fid*4096+d|none=>E.fid*4096+4095
def isApp(E:Env)(o:Oper):Bool:=E.yW (cF E o.dst)||match o.op with|.call {callee:=.builtin .append,.. }=>true|_=>false
def rQ(E:Env)(f:Fr)(m:Mem)(o:Oper):Option (Nat×bp):=
 match o.op with
 |.call c=>match c.callee,c.args.toList.map (bB E f),c.argTypes.toList with
  |.builtin .append,[.os id,x],[t,_]=>match E.P.underlying t with
   |some (.slice e)=>match eH m (aS E.P e) x with
    |some (_,rd)=>if x.has id then none else some (id,rd)
    |none=>none
   |_=>none
  |_,_,_=>none
 |_=>none
def En(E:Env)(f:Fr)(m:Mem)(o:Oper):Option (Kl×bp):=
 match(bif E.yW (cF E o.dst)then vJ E (cF E o.dst) o f m else none)with
 |some sp=>some (sp.info (cF E o.dst))
 |none=>match rQ E f m o with
  |some (id,rd)=>some ([(true,id)],(true,id)::rd)
  |none=>none
def reach(ops:Array Oper):Nat→Oper→Nat→Bool
 |0,o,j=>AS o j
 |n+1,o,j=>AS o j||o.after.toList.any fun e=>Region.binds .any e&&match ops[e.on]? with|some p=>reach ops n p j|none=>false
def Mn(ops:Array Oper)(o:Oper)(w:Bool)(id:Nat):Log→Bool
 |[]=>true
 |(j,w',nA)::r=>(!(Nat.beq id nA)||(!w&& !w')||reach ops 4 o j)&&Mn ops o w id r
def xU(ops:Array Oper)(o:Oper)(lg:Log):bp→Bool
 |[]=>true
 |(w,id)::r=>Mn ops o w id lg&&xU ops o lg r
def Ao(ops:Array Oper)(o:Oper)(id:Nat):Log→Bool
 |[]=>true
 |(j,_,n)::r=>(!(Nat.beq n (uA id))||reach ops 4 o j)&&Ao ops o id r
def uB(ops:Array Oper):List (Nat×Oper)→Oper→Bool
 |[],_=>true
 |(j,p)::r,o=>(p.apart ops o||reach ops 4 o j)&&uB ops r o
def me(ops:Array Oper):List (Nat×Oper)→List (Nat×Oper)→Bool
 |_,[]=>true
 |done,(i,o)::r=>o.after.toList.all (fun e=> !(Region.binds .any e)||Nat.blt e.on i)&&uB ops done o&&me ops ((i,o)::done) r
def guardOf(o:Oper)(A:List (Nat×Bool)):Option (Nat×Bool):=
 match o.guard with
 |none=>none
 |some g=>if A.elem g then none else some g
def y0(A:List (Nat×Bool)):List (Nat×Oper)→List (Nat×Oper)×List (Nat×Oper)
 |[]=>([],[])
 |x::r=>match guardOf x.2 A with
  |some _=>let(a,b):=y0 A r;(x::a,b)
  |none=>([],x::r)
def kJ(f:Fr):List (Nat×Oper)→Fr
 |[]=>f
 |x::r=>kJ (gP f x.2.dst .top) r
def ta(g:Nat×Bool):List Nat→List (Nat×Oper)→Bool
 |_,[]=>true
 |done,x::r=>(match x.2.guard with
  |some h=>(Nat.beq h.1 g.1&&(h.2==g.2))||done.elem h.1
  |none=>false)&&ta g (x.1::done) r
def blind(ops:Array Oper)(body:List (Nat×Oper))(o:Oper):Bool:=body.all fun y=>match y.2.dst with
  |some d=> !((o.looksAt ops).elem d)
  |none=>true
def Ql:Bool→Bool→Bool
 |true,b=>b
 |false,b=> !b
def gC(f:Fr):List (Nat×Oper)→Fr
 |[]=>f
 |x::r=>gC (gP f x.2.dst (.bm [])) r
def vk:V→Option Bool
 |.pv (.bool b)=>some b
 |_=>none
end
def tb(E:Env)(o:Oper):Bool:=match o.dst with|some d=>Nat.blt d E.fn.ntmps|none=>true
def TU(E:Env)(f:Fr)(body:List (Nat×Oper))(o:Oper):Bool:=
 eV o&&match o.op with
 |.call {callee:=.value (.func g),.. }=>(E.ctx g).isSome
 |.call {callee:=.value (.tmp t),.. }=>match(match body.find? (fun x=>x.2.dst==some t)with
  |some (_,p)=>(match p.op with
   |.move y=>bB E f y
   |.assign y=>bB E f y
   |_=>.top)
  |none=>bB E f (.tmp t))with
  |.fn g _=>(E.ctx g).isSome
  |.pv (.fn g _)=>(E.ctx g).isSome
  |.yl _=>false
  |_=>true
 |_=>true
noncomputable def cp(E:Env)(ops:Array Oper)(mode:Nat):(fuel:Nat)→(R:Type)→List (Nat×Bool)→List (Nat×Oper)→Fr→Mem→Log→(Fr→Mem→Option R)→Option R
 |0,_,_,_,_,_,_,_=>none
 |_+1,_,_,[],f,m,_,k=>k f m
 |fuel+1,R,A,(i,o)::rest,f,m,lg,k=>
  match guardOf o A with
  |none=>
   if tb E o then
    match(bif Nat.beq mode 2 then En E f m o else none)with
    |some (kl,ft)=>
     if xU ops o lg ft&&kl.all (fun x=>Ao ops o x.2 lg)&&rest.all (fun x=>reach ops 4 x.2 i)then Ge E false (cF E o.dst) o f m fun v f1 m1 _=>cp E ops mode fuel R A rest (gP f1 o.dst v) m1 (ft.map (fun x=>(i,x))++lg) k
     else none
    |none=>Ge E (Nat.beq mode 1||Nat.beq mode 2) (cF E o.dst) o f m fun v f1 m1 ft=>
      if Nat.beq mode 2 then(if xU ops o lg ft then cp E ops mode fuel R A rest (gP f1 o.dst v) m1 ((bif ops.toList.any (isApp E)then(An ops o f m m1 v ft).map (fun n=>(i,false,uA n))else[])++(ft.map (fun x=>(i,x))++lg)) k else none)
      else if Nat.beq mode 0 then cp E ops mode fuel R A rest (gP f1 o.dst v) m1 lg k
      else if wJ ft then cp E ops mode fuel R A rest (gP f1 o.dst v) m1 lg k
      else none
   else none
  |some (j,xV)=>
   match((ops[j]?).bind (·.dst))with
   |some tj=>match bB E f (.tmp tj)with
    |.pv (.bool b)=>
     match y0 A ((i,o)::rest)with
     |(body,Gg)=>
     if Nat.beq mode 0&& !(body.all fun x=>TU E f body x.2)then
      (if(body.all fun x=>tb E x.2)&&ta (j,xV) [] body&&((i,o)::rest).all (fun x=> !(x.2.dst==some tj))then
       bif Ql xV b then cp E ops mode fuel R ((j,xV)::A) ((i,o)::rest) (fh f tj (.pv (.bool xV))) m lg k
       else cp E ops mode fuel R A Gg (gC (fh f tj (.pv (.bool !xV))) body) m lg k
      else none)
     else match Gg with
     |(_,p)::kK=>
      match p.op with
      |.pick (.tmp c) x y=>
       if Nat.beq c tj&&(guardOf p A).isNone&&body.all (fun x=>eV x.2&&tb E x.2&& !(x.2.dst==some tj))&&ta (j,xV) [] body&&kK.all (fun x=>blind ops body x.2)&&tb E p&& !(Nat.beq mode 2)then
        (match xV with
         |true=>bif b then cp E ops (bif Nat.beq mode 0 then 3 else mode) fuel Bool ((j,xV)::A) body f m lg (fun f _=>vk (bB E f x))else vk (bB E (kJ f body) y)
         |false=>bif b then vk (bB E (kJ f body) x)else cp E ops (bif Nat.beq mode 0 then 3 else mode) fuel Bool ((j,xV)::A) body f m lg (fun f _=>vk (bB E f y))).bind fun r=>
        cp E ops mode fuel R A kK (gP (kJ f body) p.dst (.pv (.bool r))) m lg k
       else none
      |_=>none
     |[]=>none
    |_=>none
   |none=>none
inductive Ex where
 |normal
 |exit (id:Nat)
 |ret
def Gh{R:Type}(body:Fr→Mem→(Fr→Mem→Option R)→Option R):Nat→Fr→Mem→Option R
 |0,_,_=>none
 |n+1,f,m=>body f m (Gh body n)
def uD:Code→Nat
 |.region id _ _=>id
 |.seq a _=>uD a
 |.cond _ a _=>uD a
 |.block _ b=>uD b
 |.loop b=>uD b
 |.scope b=>uD b
 |_=>0
def Mo:List Sh→Type→Type
 |[],T=>T
 |.raw::r,T=>PV×Mo r T
 |.int _::r,T=>Int×Mo r T
 |.bool::r,T=>Bool×Mo r T
 |.str::r,T=>Bytes×Mo r T
 |.rs _::r,T=>List PV×Mo r T
 |.rp _::r,T=>PV×Mo r T
 |.fs _::r,T=>List PV×Mo r T
 |.row _ _::r,T=>Int×Mo r T
 |.own _::r,T=>Mo r T
def FW:List (Nat×Qf)→Type
 |[]=>Unit
 |(_,.box cs)::r=>Mo cs (FW r)
 |(_,.arr _ _)::r=>List PV×FW r
 |(_,.nM _ _)::r=>List PV×FW r
 |(_,.map _)::r=>List (PV×PV)×FW r
 |(_,.nest _ _)::r=>List PV×FW r
 |(_,.eU _ _)::r=>List (PV×PV)×FW r
 |(_,.loop)::r=>FW r
 |(_,.busy)::r=>FW r
 |(_,.iter _)::r=>List (PV×PV)×FW r
def ff.iD(T:ff):List Sh:=T.az.map Prod.snd
abbrev ff.ty(T:ff):Type:=Mo T.iD (FW T.bQ)
mutual
def V.same:V→V→Bool
 |.op i o,.op j p=>Nat.beq i j&&Nat.beq o p
 |.oe i a o,.oe j b p=>Nat.beq i j&&Nat.beq a b&&Nat.beq o p
 |.os i,.os j=>Nat.beq i j
 |.om i,.om j=>Nat.beq i j
 |.yl i,.yl j=>Nat.beq i j
 |.it i,.it j=>Nat.beq i j
 |.bj,.bj=>true
 |.pv .ny,.pv .ny=>true
 |.pv .sN,.pv .sN=>true
 |.pv (.int q x),.pv (.int q' y)=>decide (q=q')&&decide (x=y)
 |.fn f cs,.fn g ds=>Nat.beq f g&&C7 cs ds
 |_,_=>false
def C7:List V→List V→Bool
 |[],[]=>true
 |a::as,b::bs=>a.same b&&C7 as bs
 |_,_=>false
end
section
variable {R:Type}
def iE{T:Type}:(iD:List Sh)→List V→T→(Mo iD T→Option R)→Option R
 |[],[],t,k=>k t
 |.int q::iD,.pv (.int q' n)::vs,t,k=>if q'=q then iE iD vs t (fun r=>k (n,r))else none
 |.raw::iD,.pv p::vs,t,k=>iE iD vs t (fun r=>k (p,r))
 |.bool::iD,.pv (.bool b)::vs,t,k=>iE iD vs t (fun r=>k (b,r))
 |.str::iD,.pv (.str s)::vs,t,k=>iE iD vs t (fun r=>k (s,r))
 |.rs sz::iD,.pv (.rs CD es)::vs,t,k=>if CD=sz then iE iD vs t (fun r=>k (es,r))else none
 |.rp n::iD,.pv (.rp cs)::vs,t,k=>if cs.length=n then iE iD vs t (fun r=>k (.agg cs,r))else none
 |.fs s::iD,.pv p::vs,t,k=>(TT s p).bind fun ls=>iE iD vs t (fun r=>k (ls,r))
 |.row id off::iD,.sY nA i qi::vs,t,k=>if nA=id∧qi=off then iE iD vs t (fun r=>k ((i:Int),r))else none
 |.own v::iD,u::vs,t,k=>if v.same u then iE iD vs t k else none
 |_,_,_,_=>none
def qP(m:Mem):(bs:List (Nat×Qf))→(FW bs→Option R)→Option R
 |[],k=>k ()
 |(id,.box cs)::r,k=>match m id with
  |some (.box vs)=>qP m r fun t=>iE (T:=FW r) cs vs t k
  |_=>none
 |(id,.arr sz et)::r,k=>match m id with
  |some (.arr CD AP es)=>if CD=sz∧AP=et then qP m r fun t=>k (es,t)else none
  |_=>none
 |(id,.nM sz et)::r,k=>match m id with
  |some (.nM CD AP es)=>if CD=sz∧AP=et then qP m r fun t=>k (es,t)else none
  |_=>none
 |(id,.map kt)::r,k=>match m id with
  |some (.map sQ es)=>if sQ=kt then qP m r fun t=>k (es,t)else none
  |_=>none
 |(id,.nest sz et)::r,k=>match m id with
  |some (.nest CD AP es)=>if CD=sz∧AP=et then qP m r fun t=>k (es,t)else none
  |_=>none
 |(id,.eU kt e)::r,k=>match m id with
  |some (.eU sQ e' es)=>if sQ=kt∧e'=e then qP m r fun t=>k (es,t)else none
  |_=>none
 |(id,.loop)::r,k=>match m id with
  |some (.loop .ready)=>qP m r k
  |_=>none
 |(id,.busy)::r,k=>match m id with
  |some (.loop .busy)=>qP m r k
  |_=>none
 |(id,.iter t)::r,k=>match m id with
  |some (.iter t' es none)=>if t'=t then qP m r fun u=>k (es,u)else none
  |_=>none
def Sh.within(M:List Nat):Sh→Bool
 |.own v=>v.within M
 |.row id _=>M.elem id
 |_=>true
def Qf.within(M:List Nat):Qf→Bool
 |.box cs=>cs.all (·.within M)
 |_=>true
def ff.ok(T:ff):Bool:=T.az.all (fun x=>x.2.within (T.bQ.map (·.1)))&&T.bQ.all (fun x=>x.2.within (T.bQ.map (·.1)))
def AV:List Sh→List V→Bool
 |[],[]=>true
 |.raw::iD,.pv _::vs=>AV iD vs
 |.int q::iD,.pv (.int q' _)::vs=>decide (q'=q)&&AV iD vs
 |.bool::iD,.pv (.bool _)::vs=>AV iD vs
 |.str::iD,.pv (.str _)::vs=>AV iD vs
 |.rs sz::iD,.pv (.rs CD _)::vs=>Nat.beq CD sz&&AV iD vs
 |.rp n::iD,.pv (.rp cs)::vs=>Nat.beq cs.length n&&AV iD vs
 |.fs s::iD,.pv p::vs=>(TT s p).isSome&&AV iD vs
 |.row id off::iD,.sY nA _ qi::vs=>Nat.beq nA id&&Nat.beq qi off&&AV iD vs
 |.own v::iD,u::vs=>v.same u&&AV iD vs
 |_,_=>false
def CK(m:Mem):List (Nat×Qf)→Bool
 |[]=>true
 |(id,.box cs)::r=>(match m id with|some (.box vs)=>AV cs vs|_=>false)&&CK m r
 |(id,.arr sz _)::r=>(match m id with|some (.arr CD _ _)=>Nat.beq CD sz|_=>false)&&CK m r
 |(id,.nM sz _)::r=>(match m id with|some (.nM CD _ _)=>Nat.beq CD sz|_=>false)&&CK m r
 |(id,.map _)::r=>(match m id with|some (.map _ _)=>true|_=>false)&&CK m r
 |(id,.nest sz _)::r=>(match m id with|some (.nest CD _ _)=>Nat.beq CD sz|_=>false)&&CK m r
 |(id,.eU _ _)::r=>(match m id with|some (.eU _ _ _)=>true|_=>false)&&CK m r
 |(id,.loop)::r=>(match m id with|some (.loop .ready)=>true|_=>false)&&CK m r
 |(id,.busy)::r=>(match m id with|some (.loop .busy)=>true|_=>false)&&CK m r
 |(id,.iter _)::r=>(match m id with|some (.iter _ _ none)=>true|_=>false)&&CK m r
def fits(f:Fr)(m:Mem)(T:ff):Bool:=CK m T.bQ&&AV T.iD (T.az.map fun(x:Nat×Sh)=>f x.1)
def enc(T:ff)(f:Fr)(m:Mem)(k:T.ty→Option R):Option R:=if T.ok then qP m T.bQ fun t=>iE (T:=FW T.bQ) T.iD (T.az.map fun(x:Nat×Sh)=>f x.1) t k else none
end
def pz{T:Type}:(iD:List Sh)→Mo iD T→List V×T
 |[],t=>([],t)
 |.int q::iD,x=>let r:=pz iD x.2;(.pv (.int q x.1)::r.1,r.2)
 |.raw::iD,x=>let r:=pz iD x.2;(.pv x.1::r.1,r.2)
 |.bool::iD,x=>let r:=pz iD x.2;(.pv (.bool x.1)::r.1,r.2)
 |.str::iD,x=>let r:=pz iD x.2;(.pv (.str x.1)::r.1,r.2)
 |.rs sz::iD,x=>let r:=pz iD x.2;(.pv (.rs sz x.1)::r.1,r.2)
 |.rp n::iD,x=>let r:=pz iD x.2;(.pv (.rp (aK n x.1))::r.1,r.2)
 |.fs s::iD,x=>let r:=pz iD x.2;(.pv (Ei s ((List.range s.n).map fun j=>x.1.getD j .bad)).1::r.1,r.2)
 |.row id off::iD,x=>let r:=pz iD x.2;(.sY id x.1.toNat off::r.1,r.2)
 |.own v::iD,x=>let r:=pz (T:=T) iD x;(v::r.1,r.2)
def fZ:(bs:List (Nat×Qf))→FW bs→List (Nat×Option bJ)
 |[],_=>[]
 |(id,.box cs)::r,x=>let y:=pz (T:=FW r) cs x;(id,some (.box y.1))::fZ r y.2
 |(id,.arr sz et)::r,x=>(id,some (.arr sz et x.1))::fZ r x.2
 |(id,.nM sz et)::r,x=>(id,some (.nM sz et x.1))::fZ r x.2
 |(id,.map kt)::r,x=>(id,some (.map kt x.1))::fZ r x.2
 |(id,.nest sz et)::r,x=>(id,some (.nest sz et x.1))::fZ r x.2
 |(id,.eU kt e)::r,x=>(id,some (.eU kt e x.1))::fZ r x.2
 |(id,.loop)::r,x=>(id,some (.loop .ready))::fZ (r:List (Nat×Qf)) x
 |(id,.busy)::r,x=>(id,some (.loop .busy))::fZ (r:List (Nat×Qf)) x
 |(id,.iter t)::r,x=>(id,some (.iter t x.1 none))::fZ r x.2
def od:List (Nat×Sh)→List V→List (Nat×V)
 |(t,_)::r,v::vs=>(t,v)::od r vs
 |_,_=>[]
def IW(T:ff)(x:T.ty):Fr:=IM (od T.az (pz (T:=FW T.bQ) T.iD x).1)
def AW(T:ff)(x:T.ty):Mem:=AH (fZ T.bQ (pz (T:=FW T.bQ) T.iD x).2)
def y4{A:Type}:List (Nat×Nat)→Fr→Mem→(Fr→Mem→A)→A
 |[],f,m,k=>k f m
 |(t,sz)::r,f,m,k=>match f t with
  |.os id=>match m id with
   |some (.arr s et es)=>y4 r (fh f t (.pv (.rs s es))) (an m id (.nM s et es)) k
   |some (.nM s _ es)=>y4 r (fh f t (.pv (.rs s es))) m k
   |_=>y4 r f m k
  |.bj=>y4 r (fh f t (.pv (.rs sz []))) m k
  |_=>y4 r f m k
def C8{A:Type}:List (Nat×Nat×Nat)→Mem→(Mem→A)→A
 |[],m,k=>k m
 |(id,j,sz)::r,m,k=>match m id with
  |some (.box cs)=>match cs[j]? with
   |some .bj=>C8 r (an m id (.box (cs.set j (.pv (.rs sz []))))) k
   |_=>C8 r m k
  |_=>C8 r m k
def y5{A:Type}(P:Program):List (Nat×Nat×Nat×TypeId)→Mem→(Mem→A)→A
 |[],m,k=>k m
 |(id,j,Qm,et)::r,m,k=>match m id with
  |some (.box cs)=>match cs[j]? with
   |some .bj=>match m Qm with
    |none=>if 0<aS P et then y5 P r (an (an m Qm (.arr (aS P et) et [])) id (.box (cs.set j (.os Qm)))) k else y5 P r m k
    |some _=>y5 P r m k
   |_=>y5 P r m k
  |_=>y5 P r m k
def Gi{A:Type}:List Nat→Mem→(Mem→A)→A
 |[],m,k=>k m
 |id::r,m,k=>match m id with
  |some (.arr s et es)=>Gi r (an m id (.nest s et es)) k
  |_=>Gi r m k
def y6{A:Type}:List (Nat×Nat)→Fr→Mem→(Fr→Mem→A)→A
 |[],f,m,k=>k f m
 |(id,j)::r,f,m,k=>match m id with
  |some (.box cs)=>match cs[j]? with
   |some (.fg a 0 len)=>match m a with
    |some (.arr s et es)=>if Nat.beq a id then y6 r f m k else y6 r (eP a f) (an (an (bf (bC a m) a) a (.arr s et (es.take len))) id (.box ((cs.map (pM a)).set j (.os a)))) k
    |_=>y6 r f m k
   |_=>y6 r f m k
  |_=>y6 r f m k
def C9{A:Type}(P:Program)(T:ff)(f:Fr)(m:Mem)(k:Fr→Mem→A):A:=y6 T.ct f m fun f m=>y5 P T.bo m fun m=>C8 T.bz m fun m=>Gi T.nz m fun m=>y4 T.fz f m k
variable{R:Type}
def Ex.Gj(k1:Fr→Mem→Option R)(k:Ex→Fr→Mem→Option R):Ex→Fr→Mem→Option R
 |.normal,f,m=>k1 f m
 |e,f,m=>k e f m
def Ex.Qn(id:Nat)(k:Ex→Fr→Mem→Option R):Ex→Fr→Mem→Option R
 |.exit j,f,m=>if j=id then k .normal f m else k (.exit j) f m
 |e,f,m=>k e f m
def Ex.jmp:Ex→Option Y1
 |.normal=>none
 |.exit id=>some (.exit id)
 |.ret=>some .ret
def Y1.ex:Y1→Ex
 |.ret=>.ret
 |.exit id=>.exit id
def Mp(n:Nat)(g f:Fr):Fr:=fun t=>bif Nat.blt t n then g t else f (t-n)
def AX:List Nat→List V→Fr→Fr
 |p::ps,v::vs,f=>AX ps vs (fh f p v)
 |_,_,f=>f
def roundOf(as b:Fr→Mem→(Ex→Fr→Mem→Option R)→Option R)(lid n:Nat)(ps:List Nat)(nt:Nat)(args:List V)(F:Fr)(m:Mem)(k:V→Fr→Mem→Option R):Option R:=
 match m lid with
 |some (.loop .ready)=>if args.length=ps.length then
  as (Mp n (AX ps args (s9 nt F)) F) m fun e f m=>match e,m lid with
   |.normal,some (.loop .ready)=>b f (an m lid (.loop .busy)) fun e f m=>match m lid with
    |some (.loop .busy)=>match e.jmp with
     |none=>k (.pv (.bool true)) (s9 n f) (an m lid (.loop .ready))
     |some j=>k (.pv (.bool false)) (s9 n f) (an m lid (.loop (.done j)))
    |_=>none
   |_,_=>none
  else none
 |_=>none
def WT:V→Option (FuncId×List V)
 |.fn g lU=>some (g,lU)
 |.pv (.fn g lU)=>some (g,lU.map .pv)
 |_=>none
def ZD(E:Env)(o:Oper):Bool:=match o.op with
 |.call c=>match c.callee with
  |.value (.func g)=>(E.ctx g).isNone&&(E.own g).isNone
  |_=>false
 |_=>false
def TV(E:Env)(ops:Array Oper):Option Nat:=ops.toList.findIdx? (ZD E)
def Qo(ops:Array Oper)(p:Nat):Bool:=match ops[p]? with
 |none=>false
 |some o=>o.guard.isNone&&o.after.toList.all (fun e=> !(Region.binds .any e)||Nat.blt e.on p)&&((List.range ops.size).zip ops.toList).all fun x=>bif Nat.blt x.1 p then reach ops 8 o x.1 else Nat.beq x.1 p||reach ops 8 x.2 p
noncomputable def eZ:(E:Env)→{R:Type}→Code→Fr→Mem→(Ex→Fr→Mem→Option R)→Option R
 |E,_,.skip,f,m,k=>k .normal f m
 |E,R,.region _ ops draw,f,m,k=>
  if draw then
   match TV E ops with
   |some p=>if Qo ops p&&me ops [] (((List.range ops.size).zip ops.toList).take p)&&me ops [] (((List.range ops.size).zip ops.toList).drop (p+1))then
     cp E ops 2 (ops.size+1) R [] (((List.range ops.size).zip ops.toList).take p) f m [] fun f m=>
     cp E ops 0 3 R [] ((((List.range ops.size).zip ops.toList).drop p).take 1) f m [] fun f m=>
     cp E ops 2 (ops.size+1) R [] (((List.range ops.size).zip ops.toList).drop (p+1)) f m [] fun f m=>k .normal f m
    else none
   |none=>
   (if me ops [] ((List.range ops.size).zip ops.toList)then
    (if ops.toList.all eV then cp E ops 1 (ops.size+1) R [] ((List.range ops.size).zip ops.toList) f m [] fun f m=>k .normal f m
    else cp E ops 2 (ops.size+1) R [] ((List.range ops.size).zip ops.toList) f m [] fun f m=>k .normal f m)
   else none)
  else cp E ops 0 (ops.size+ops.size+1) R [] ((List.range ops.size).zip ops.toList) f m [] fun f m=>k .normal f m
 |E,R,.seq a b,f,m,k=>eZ E a f m (Ex.Gj (fun f m=>eZ E b f m k) k)
 |E,R,.cond c a b,f,m,k=>match c,bB E f c with
  |.tmp x,.pv (.bool t)=>if t then eZ E a (fh f x (.pv (.bool true))) m k else eZ E b (fh f x (.pv (.bool false))) m k
  |_,_=>none
 |E,R,.block id b,f,m,k=>eZ E b f m (Ex.Qn id k)
 |E,R,.loop b,f,m,k=>match(E.hint E.fid (uD b)).find? (fun T=>C9 E.P T f m fun f m=>fits f m T)with
  |some T=>C9 E.P T f m fun f m=>enc T f m (E.lp.run fun s rec=>eZ E b (IW T s) (AW T s) (Ex.Gj (fun f m=>C9 E.P T f m fun f m=>enc T f m rec) k))
  |none=>Gh (fun f m rec=>eZ E b f m (Ex.Gj rec k)) E.u f m
 |E,R,.exit id,f,m,k=>k (.exit id) f m
 |E,R,.ret,f,m,k=>k .ret f m
 |E,R,.label _,f,m,k=>k .normal f m
 |E,R,.scope b,f,m,k=>eZ E b f m k
 |E,R,.rangeFunc g ps as b,f,m,k=>if E.WS then none else match ps.toList with
  |p0::_=>fresh true (cF E (some p0)) (.loop .ready) f m fun f m _=>match WT (bB E f g)with
   |some (gid,lU)=>E.WR R gid (cF E (some p0)*4096+gid) (fun _ nt site id args F m k=>bif Nat.beq id (cF E (some p0))then
     roundOf (eZ {E with fid:=site*4096+E.fid%4096,yl:=xN,WS:=true} as) (eZ {E with fid:=site*4096+E.fid%4096,yl:=xN,WS:=true} b) (cF E (some p0)) E.fn.ntmps ps.toList nt args F m k
     else none)
    (.yl (cF E (some p0))::lU) f m fun _ f m=>match m (cF E (some p0))with
     |some (.loop .ready)=>k .normal (eP (cF E (some p0)) f) (bf (bC (cF E (some p0)) m) (cF E (some p0)))
     |some (.loop (.done j))=>k j.ex (eP (cF E (some p0)) f) (bf (bC (cF E (some p0)) m) (cF E (some p0)))
     |_=>none
   |_=>none
  |[]=>none
 |_,_,_,_,_,_=>none
def wK(E:Env){R:Type}(f:Fr)(m:Mem):List ResultVar→(List V→Option R)→Option R
 |[],k=>k []
 |.tmp t::rs,k=>wK E f m rs fun vs=>k (bB E f (.tmp t)::vs)
 |.cell a t::rs,k=>ob E false t (bB E f (.tmp a)) m fun v _=>wK E f m rs fun vs=>k (v::vs)
def Qp(E:Env)(rs:List ResultVar)(f:Fr)(m:Mem):Option PV:=wK E f m rs fun vs=>match vs with
  |[v]=>jj m eG v
  |vs=>(nZ (jj m eG) vs).bind fun ps=>some (.bm ps)
section
variable {R:Type} (E:Env)
def Eo(t:TypeId)(p:PV)(k:PV→Option R):Option R:=
 match E.P.underlying t with
 |some (.int _)=>fJ E t p k
 |some .bool=>fJ E t p k
 |some .string=>fJ E t p k
 |some (.slice _)=>fJ E t p k
 |some (.map _ _)=>fJ E t p k
 |_=>k p
def nB:List TypeId→List PV→(List PV→Option R)→Option R
 |t::ts,p::ps,k=>Eo E t p fun q=>nB ts ps fun qs=>k (q::qs)
 |_,ps,k=>k ps
def Mq(n:Nat)(p:PV)(a:Option R)(b:PV→Option R):Option R:=
 match p with
 |.ny=>a
 |.rp cs=>if n≤cs.length then b (.agg cs)else none
 |_=>none
def Qq(t:TypeId)(p:PV)(k:PV→Option R):Option R:=
 match E.P.underlying t with
 |some (.struct _)=>(asAgg (aS E.P t) p).bind fun _=>match AR E.P 8 t with
  |some ts=>nB E ts (aK (aS E.P t) p) fun cs=>k (.agg cs)
  |none=>none
 |some (.array _ _)=>(asAgg (aS E.P t) p).bind fun _=>match AR E.P 8 t with
  |some ts=>nB E ts (aK (aS E.P t) p) fun cs=>k (.agg cs)
  |none=>none
 |some (.pointer e)=>Mq (aS E.P e) p (k .ny) fun q=>match AR E.P 8 e with
  |some ts=>nB E ts (aK (aS E.P e) q) fun cs=>k (.rp cs)
  |none=>none
 |_=>Eo E t p k
def vK:List TypeId→List PV→(List PV→Option R)→Option R
 |t::ts,p::ps,k=>Qq E t p fun q=>vK ts ps fun qs=>k (q::qs)
 |_,ps,k=>k ps
end
def AY(args:List V):Fr:=fun t=>args.getD t .top
noncomputable def Ap(E:Env)(args:List V)(f:Fr)(m:Mem)(k:V→Fr→Mem→Option R):Option R:=
 match E.fn.body with
 |some c=>if args.length≤E.fn.ntmps then eZ E c (sD E.fn.ntmps args f) m (fun e f m=>match e with
  |.exit _=>none
  |_=>wK E f m E.fn.results.toList fun vs=>match vs with
   |[v]=>k v (s9 E.fn.ntmps f) m
   |vs=>k (.bm vs) (s9 E.fn.ntmps f) m)else none
 |none=>none
def WU(E:Env)(f:Fr)(m:Mem):Option PV:=
 match E.fn.resultTypes.toList with
 |[t]=>match E.P.underlying t with
  |some (.slice e)=>wK E f m E.fn.results.toList fun vs=>match vs with
   |[.os id]=>match m id with
    |some (.arr sz et es)=>if sz=aS E.P e∧et=e then some (.rs sz es)else none
    |_=>none
   |[.fg id 0 len]=>match m id with
    |some (.arr sz et es)=>if sz=aS E.P e∧et=e then some (.rs sz (es.take len))else none
    |_=>none
   |_=>none
  |_=>none
 |_=>none
noncomputable def kL(E:Env)(args:List PV):Option PV:=
 match E.fn.body with
 |some c=>if args.length≤E.fn.ntmps then vK E E.fn.params.toList args fun vs=>eZ E c (AY (vs.map .pv)) (fun _=>none) (fun e f m=>match e with
  |.exit _=>none
  |_=>WU E f m)else none
 |none=>none
noncomputable def aP(E:Env)(args:List PV):Option PV:=
 match E.fn.body with
 |some c=>if args.length≤E.fn.ntmps then vK E E.fn.params.toList args fun vs=>eZ E c (AY (vs.map .pv)) (fun _=>none) (fun e f m=>match e with
  |.normal=>Qp E E.fn.results.toList f m
  |.ret=>Qp E E.fn.results.toList f m
  |.exit _=>none)else none
 |none=>none
end Go.Ab
