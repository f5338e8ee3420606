import Derived.Test.YtmbihgjlollbeaaGreatAbDefs
import Derived.Deep.Quiet
set_option linter.all false
namespace Go.Ab
inductive FS where
 |raw
 |fn (g:FuncId) (caps:List FS)
 |ptr (cells:List FS)
mutual
def rdL:FS→PV→Option (List PV)
 |.raw,p=>some [p]
 |.fn g cs,.fn g' qs=>if g'=g then QT cs qs else none
 |.ptr cs,.rp qs=>QT cs qs
 |_,_=>none
def QT:List FS→List PV→Option (List PV)
 |[],[]=>some []
 |s::ss,p::ps=>(rdL s p).bind fun a=>(QT ss ps).bind fun b=>some (a++b)
 |_,_=>none
end
mutual
def Pb:FS→List PV→PV×List PV
 |.raw,[]=>(.bad,[])
 |.raw,p::r=>(p,r)
 |.fn g cs,l=>(.fn g (I2 cs l).1,(I2 cs l).2)
 |.ptr cs,l=>(.rp (I2 cs l).1,(I2 cs l).2)
def I2:List FS→List PV→List PV×List PV
 |[],l=>([],l)
 |s::ss,l=>((Pb s l).1::(I2 ss (Pb s l).2).1,(I2 ss (Pb s l).2).2)
end
mutual
def FS.n:FS→Nat
 |.raw=>1
 |.fn _ cs=>nFs cs
 |.ptr cs=>nFs cs
def nFs:List FS→Nat
 |[]=>0
 |s::ss=>s.n+nFs ss
end
inductive Sh where
 |raw
 |int (q:IntKind)
 |bool
 |str
 |rs (sz:Nat)
 |rp (n:Nat)
 |fs (s:FS)
 |row (id off:Nat)
 |own (v:V)
inductive GB where
 |box (cs:List Sh)
 |arr (sz:Nat) (et:TypeId)
 |vF (sz:Nat) (et:TypeId)
 |map (kt:TypeId)
 |nest (sz:Nat) (et:TypeId)
 |fS (kt e:TypeId)
 |loop
 |busy
 |iter (t:TypeId)
structure NH where
 ck:List (Nat×Sh)
 Fx:List (Nat×GB)
 fz:List (Nat×Nat):=[]
 bz:List (Nat×Nat×Nat):=[]
 bo:List (Nat×Nat×Nat×TypeId):=[]
 nz:List Nat:=[]
 ct:List (Nat×Nat):=[]
structure bk where
 run:{S R:Type}→(S→(S→Option R)→Option R)→S→Option R
 room:Nat→Bool
 AQ:∀n,room n=true→(n:Int)≤IntKind.i64.max
def cE{S R:Type}(body:S→(S→Option R)→Option R):Nat→S→Option R
 |0,_=>none
 |n+1,s=>body s (cE body n)
abbrev YL:=(R:Type)→Nat→Nat→Nat→List V→Fr→Mem→(V→Fr→Mem→Option R)→Option R
def HS:YL:=fun _ _ _ _ _ _ _ _=>none
structure Env where
 P:Program
 ctx:FuncId→Option (List PV→Option PV)
 aW:Nat→Option (List PV)
 fid:FuncId
 fn:Func
 lp:bk
 hint:Nat→Nat→List NH
 u:Nat
 own:FuncId→Option (List PV→Option PV)
 inl:(R:Type)→FuncId→Nat→List V→Fr→Mem→(V→Fr→Mem→Option R)→Option R
 rng:(R:Type)→FuncId→Nat→YL→List V→Fr→Mem→(V→Fr→Mem→Option R)→Option R
 yl:YL
 rdb:Bool:=false
 fnr:FuncId→Option FS:=fun _=>none
 J4:Nat→Bool:=fun _=>false
section
variable {R:Type} (E:Env)
def cY(kt:TypeId)(p:PV)(a:Option R)(b:List PV→List PV→Option R):Option R:=
 match p with
 |.AO=>a
 |.rm Ct ks vs=>if Ct=kt then b ks vs else none
 |_=>none
def jD(t:TypeId)(p:PV)(k:PV→Option R):Option R:=
 match E.P.underlying t with
 |some (.int q)=>(asInt q p).bind fun n=>k (.int q n)
 |some .bool=>(asBool p).bind fun b=>k (.bool b)
 |some .string=>(aO p).bind fun s=>k (.str s)
 |some (.slice e)=>(ao (bj E.P e) p).bind fun es=>k (.rs (bj E.P e) es)
 |some (.struct _)=>(asAgg (bj E.P t) p).bind fun _=>k (.agg (aQ (bj E.P t) p))
 |some (.array _ _)=>(asAgg (bj E.P t) p).bind fun _=>k (.agg (aQ (bj E.P t) p))
 |some (.pointer _)=>match p with
  |.vO=>k p
  |.rp _=>k p
  |_=>none
 |some (.map kt _)=>cY kt p (k .AO) fun ks vs=>k (.rm kt ks vs)
 |some (.func _ _ _)=>match p with
  |.JP=>k .JP
  |.fn g cs=>k (.fn g cs)
  |_=>none
 |some (.interface _)=>(V4 p).bind fun b=>k (.ifc b)
 |_=>none
def GF(t:TypeId)(v:V)(k:V→Option R):Option R:=
 match v with
 |.pv p=>jD E t p fun p=>k (.pv p)
 |.top=>none
 |v=>if(E.P.underlying t).isSome then k v else none
def I3:List TypeId→List PV→(List V→Option R)→Option R
 |[],[],k=>k []
 |t::ts,p::ps,k=>jD E t p fun q=>I3 ts ps fun vs=>k (.pv q::vs)
 |_,_,_=>none
def I4(ts:List TypeId)(r:PV)(k:V→Option R):Option R:=
 match ts with
 |[]=>(cg 0 r).bind fun _=>k (.aG [])
 |[t]=>jD E t r fun q=>k (.pv q)
 |ts=>(cg ts.length r).bind fun vs=>I3 E ts ((List.range ts.length).map fun j=>vs.getD j .bad) fun us=>k (.aG us)
def HT(fid:FuncId)(ts:List TypeId)(r:PV)(k:V→Option R):Option R:=
 match E.fnr fid with
 |some s=>(rdL s r).bind fun ls=>k (.pv (Pb s ((List.range s.n).map fun j=>ls.getD j .bad)).1)
 |none=>I4 E ts r k
def bQ(f:Fr):Operand→V
 |.tmp t=>bif Nat.blt t E.fn.ntmps then f t else .top
 |.const c=>NG c
 |.global g=>match E.aW g with|some cs=>.pv (.rp cs)|none=>.top
 |.func f=>bif Nat.blt f Kr then .fn f []else .top
def fresh(draw:Bool)(site:Nat)(b:bW)(f:Fr)(m:Mem)(k:Fr→Mem→bN→Option R):Option R:=
 match m site with
 |none=>k f (aD m site b) [(true,site)]
 |some _=>if draw||b.names site then none else k (fC site f) (aD (bR site m) site b) [(true,site)]
def vR:V→Option (List V)
 |.pv (.agg cs)=>some (cs.map .pv)
 |.agg cs=>some cs
 |_=>none
def dn:Mem:=fun _=>none
def pw(op:BinOp)(t:TypeId)(a b:V)(k:PV→Option R):Option R:=
 match a,b with
 |.pv (.int q x),.pv (.int q' y)=>match op with
  |.shl=>if y<0 then none else k (.int q (q.wrap (x*2^(min y.toNat q.bits))))
  |.shr=>if y<0 then none else k (.int q (x.fdiv (2^(min y.toNat q.bits))))
  |op=>if q=q' then match op with
   |.add=>k (.int q (q.wrap (x+y)))
   |.sub=>k (.int q (q.wrap (x-y)))
   |.mul=>k (.int q (q.wrap (x*y)))
   |.quo=>if y=0 then none else k (.int q (q.wrap (x.tdiv y)))
   |.rem=>if y=0 then none else k (.int q (x.tmod y))
   |.and=>k (.int q (q.wrap (BitVec.ofInt q.bits x&&&BitVec.ofInt q.bits y).toNat))
   |.or=>k (.int q (q.wrap (BitVec.ofInt q.bits x|||BitVec.ofInt q.bits y).toNat))
   |.xor=>k (.int q (q.wrap (BitVec.ofInt q.bits x^^^BitVec.ofInt q.bits y).toNat))
   |.andNot=>k (.int q (q.wrap (BitVec.ofInt q.bits x&&& ~~~(BitVec.ofInt q.bits y)).toNat))
   |.eql=>k (.bool (x==y))
   |.neq=>k (.bool (x !=y))
   |.lss=>k (.bool (decide (x<y)))
   |.leq=>k (.bool (decide (x≤y)))
   |.gtr=>k (.bool (decide (x>y)))
   |.geq=>k (.bool (decide (x≥y)))
   |_=>none
   else none
 |.pv (.str x),.pv (.str y)=>match op with
  |.add=>if E.lp.room (x.length+y.length)=true then k (.str (x++y))else none
  |.eql=>k (.bool (x==y))
  |.neq=>k (.bool (!(x==y)))
  |.lss=>k (.bool (Op.bytesLess x y))
  |.leq=>k (.bool (Op.bytesLess x y||x==y))
  |.gtr=>k (.bool (!(Op.bytesLess x y||x==y)))
  |.geq=>k (.bool (!(Op.bytesLess x y)))
  |_=>none
 |.pv (.bool x),.pv (.bool y)=>match op,E.P.underlying t with
  |.eql,some .bool=>k (.bool (x==y))
  |.neq,some .bool=>k (.bool (!(x==y)))
  |_,_=>none
 |.pv .vO,.pv .vO=>match op,E.P.underlying t with
  |.eql,some (.pointer _)=>k (.bool true)
  |.neq,some (.pointer _)=>k (.bool false)
  |_,_=>none
 |.fn _ _,.pv .JP|.pv (.fn _ _),.pv .JP=>match op,E.P.underlying t with
  |.eql,some (.func _ _ _)=>k (.bool false)
  |.neq,some (.func _ _ _)=>k (.bool true)
  |_,_=>none
 |.pv (.rp _),.pv .vO|.op _ _,.pv .vO|.oe _ _ _,.pv .vO=>match op,E.P.underlying t with
  |.eql,some (.pointer _)=>k (.bool false)
  |.neq,some (.pointer _)=>k (.bool true)
  |_,_=>none
 |a,b=>if aN E.P t then match yq E.P t,vR a,vR b with
  |some ks,some as,some bs=>match uT (nu dn 1) as,uT (nu dn 1) bs with
   |some as,some bs=>if mI ks as=true∧mI ks bs=true then match op with
    |.eql=>k (.bool (cz as bs))
    |.neq=>k (.bool (!(cz as bs)))
    |_=>none
    else none
   |_,_=>none
  |_,_,_=>none
  else none
def Kt:Operand→Bool
 |.const .nilIface=>true
 |_=>false
def abJ(op:BinOp)(t:TypeId)(a:V)(k:PV→Option R):Option R:=
 match a with
 |.pv (.ifc b)=>match op,E.P.underlying t with
  |.eql,some (.interface _)=>k (.bool (!b))
  |.neq,some (.interface _)=>k (.bool b)
  |_,_=>none
 |_=>none
def QU(op:BinOp)(t:TypeId)(y:Operand)(a b:V)(k:PV→Option R):Option R:=bif Kt y then abJ E op t a k else pw E op t a b k
noncomputable def agree(a b:Option R):Option R:= @ite _ (a=b) (Classical.propDecidable _) a none
noncomputable def TL(op:BinOp)(t:TypeId)(es:List PV)(k:Bool→Option R):Option R:=
 match op,E.P.underlying t with
 |.eql,some (.slice _)=>if es.isEmpty=true then agree (k true) (k false)else k false
 |.neq,some (.slice _)=>if es.isEmpty=true then agree (k false) (k true)else k true
 |_,_=>none
def xun(op:UnOp)(a:V)(k:PV→Option R):Option R:=
 match op,a with
 |.not,.pv (.bool b)=>k (.bool !b)
 |.neg,.pv (.int q n)=>k (.int q (q.wrap (0-n)))
 |.xor,.pv (.int q n)=>k (.int q (q.wrap (BitVec.ofInt q.bits (if q.signed then-1 else q.max)^^^BitVec.ofInt q.bits n).toNat))
 |_,_=>none
def Ku(s d:TypeId)(a:V)(k:PV→Option R):Option R:=
 match E.P.underlying s,E.P.underlying d,a with
 |some (.int q),some (.int q'),.pv (.int q'' n)=>if q''=q then(if q'=q then k (.int q n)else k (.int q' (q'.wrap n)))else none
 |some .string,some .string,.pv (.str s)=>k (.str s)
 |_,_,_=>none
def yY(s:Nat)(t:TypeId)(e:PV)(off:Nat)(k:V→Option R):Option R:=
 if aN E.P t then(if off+bj E.P t≤s then k (.pv (.agg (((aQ s e).drop off).take (bj E.P t))))else none)
 else match(aQ s e)[off]? with
  |some p=>jD E t p fun p=>k (.pv p)
  |none=>none
def pvO:V→Option PV
 |.pv p=>some p
 |_=>none
def HU(t:TypeId)(s i off:Nat):Bool:=match E.P.underlying t with
 |some (.array _ e)=>Nat.beq (bj E.P e) s&&aN E.P e&&Nat.beq i 0&&Nat.beq off 0
 |_=>false
def uH(own:Bool)(t:TypeId)(a:V)(m:Mem)(k:V→bN→Option R):Option R:=
 match a with
 |.pv (.rp cs)=>
  if aN E.P t then(if bj E.P t≤cs.length then k (.pv (.agg (cs.take (bj E.P t)))) []else none)
  else(cs.head?).bind fun p=>jD E t p fun p=>k (.pv p) []
 |.op id off=>match m id with
  |some (.box cs)=>
   if aN E.P t then(if off+bj E.P t≤cs.length then k (.agg ((cs.drop off).take (bj E.P t))) [(false,id)]else none)
   else match uT pvO cs with
    |some ps=>(ps[off]?).bind fun p=>jD E t p fun p=>k (.pv p) [(false,id)]
    |none=>match cs[off]? with
     |some v=>GF E t v fun v=>k v [(false,id)]
     |none=>none
  |_=>none
 |.oe id i off=>match m id with
  |some (.arr s _ es)=>bif HU E t s i off then(if es.length*s=bj E.P t then k (.pv (.agg (gx s es))) [(false,id)]else none)else(es[i]?).bind fun e=>yY E s t e off fun v=>k v [(false,id)]
  |some (.vF s _ es)=>(es[i]?).bind fun e=>yY E s t e off fun v=>k v [(false,id)]
  |some (.nest _ _ es)=>if aN E.P t then none else(es[i]?).bind fun e=>
   if own then(match E.P.underlying t with
    |some (.slice et)=>(fT (bj E.P et) (cell e off)).bind fun _=>k (.Cx id i off) [(false,id)]
    |_=>none)
   else jD E t (cell e off) fun p=>k (.pv p) [(false,id)]
  |_=>none
 |.GC id i off s j off2=>match m id with
  |some (.nest _ _ es)=>(es[i]?).bind fun e=>(fT s (cell e off)).bind fun rs=>(rs[j]?).bind fun q=>yY E s t q off2 fun v=>k v [(false,id)]
  |_=>none
 |_=>none
def over{T:Type}:List T→List T→List T
 |[],cs=>cs
 |x::new,[]=>x::over new []
 |x::new,_::cs=>x::over new cs
def bY{T:Type}:List T→Nat→List T→List T
 |cs,0,new=>over new cs
 |[],_+1,new=>new
 |c::cs,off+1,new=>c::bY cs off new
theorem Pc{T:Type}:∀(new cs:List T),over new cs=new++cs.drop new.length
 |[],cs=>by rfl
 |x::new,[]=>by simp[over,Pc new []]
 |x::new,_::cs=>by simp[over,Pc new cs]
theorem eu{T:Type}:∀(cs:List T)(off:Nat)(new:List T),bY cs off new=cs.take off++new++cs.drop (off+new.length)
 |cs,0,new=>by cases cs<;>simp[bY,Pc]
 |[],_+1,new=>by simp[bY]
 |c::cs,off+1,new=>by rw[bY,eu cs off new,show off+1+new.length=(off+new.length)+1 by omega];simp
def Cz(draw:Bool)(m:Mem)(n:Nat)(agg:Bool)(v:V):Option (PV×Mem):=if draw then(match mK dn n agg v with|some (p,_)=>some (p,m)|none=>none)else mK m n agg v
def setRow(s:Nat)(e:PV)(off:Nat)(p:PV):PV:=if s=1 then p else .agg ((aQ s e).set off p)
def setCells(s:Nat)(e:PV)(off n:Nat)(p:PV):PV:=if off=0∧n=s then p else .agg (bY (aQ s e) off p.cells)
def TM(t:TypeId)(i off:Nat)(b:Option bW)(x:V):Option (Nat×TypeId×Nat×PV):=match b,x with
 |some (.arr s et es),.pv p=>bif HU E t s i off then some (s,et,es.length,p)else none
 |_,_=>none
def yZ(draw:Bool)(t:TypeId)(a x:V)(m:Mem)(k:Mem→bN→Option R):Option R:=
 match a with
 |.op id off=>match m id with
  |some (.box cs)=>match toCells (bj E.P t) x with
   |some new=>if off+bj E.P t≤cs.length∧0<bj E.P t then k (aD m id (.box (bY cs off new))) [(true,id)]else none
   |none=>none
  |_=>none
 |.oe id i off=>match TM E t i off (m id) x with
  |some (s,et,n,p)=>(asAgg (bj E.P t) p).bind fun _=>if n*s=bj E.P t∧0<bj E.P t then k (aD m id (.arr s et (fX s n p))) [(true,id)]else none
  |none=>match Cz draw m (bj E.P t) (aN E.P t) x with
  |some (p,m)=>match m id with
   |some (.arr s et es)=>(es[i]?).bind fun e=>
    if off=0∧bj E.P t=s∧0<s then k (aD m id (.arr s et (es.set i p))) [(true,id)]
    else if off+bj E.P t≤s∧0<bj E.P t∧1<s then k (aD m id (.arr s et (es.set i (.agg (bY (aQ s e) off p.cells))))) [(true,id)]
    else none
   |some (.nest s et es)=>(es[i]?).bind fun e=>if off+bj E.P t≤s∧0<bj E.P t∧1<s then k (aD m id (.nest s et (es.set i (.agg (bY (aQ s e) off p.cells))))) [(true,id)]else none
   |_=>none
  |none=>none
 |.GC id i off s j off2=>match mK dn (bj E.P t) (aN E.P t) x with
  |some (p,_)=>match m id with
   |some (.nest s0 et es)=>(es[i]?).bind fun e=>(fT s (cell e off)).bind fun rs=>(rs[j]?).bind fun q=>
    if off2+bj E.P t≤s∧0<bj E.P t∧off<s0 then k (aD m id (.nest s0 et (es.set i (setRow s0 e off (.uS s (rs.set j (setCells s q off2 (bj E.P t) p))))))) [(true,id)]
    else none
   |_=>none
  |none=>none
 |_=>none
def Na(m:Mem)(x:V)(k:Nat→bN→Option R):Option R:=
 match x with
 |.pv (.rs _ es)=>k es.length []
 |.jB=>k 0 []
 |.gw id _ len=>match m id with
  |some (.arr _ _ _)=>k len [(false,id)]
  |some (.vF _ _ _)=>k len [(false,id)]
  |_=>none
 |.os id=>match m id with
  |some (.arr _ _ es)=>k es.length [(false,id)]
  |some (.vF _ _ es)=>k es.length [(false,id)]
  |some (.nest _ _ es)=>k es.length [(false,id)]
  |some (.box cs)=>if cs.length≤maxLen then k cs.length [(false,id)]else none
  |_=>none
 |_=>none
def ZB(sz:Nat)(m:Mem)(x:V)(k:Nat→bN→Option R):Option R:=
 match x with
 |.Cx id i off=>match m id with
  |some (.nest _ _ es)=>(es[i]?).bind fun e=>(fT sz (cell e off)).bind fun rs=>k rs.length [(false,id)]
  |_=>none
 |x=>Na m x k
def abK(m:Mem)(x:V)(k:Nat→bN→Option R):Option R:=
 match x with
 |.om id=>match m id with
  |some (.map _ es)=>if es.length≤maxLen then k es.length [(false,id)]else none
  |_=>none
 |.pv .AO=>k 0 []
 |_=>none
def QV(t:TypeId)(x:V)(m:Mem)(k:V→bN→Option R):Option R:=
 match E.P.underlying t with
 |some (.array n _)=>if n≤maxLen then k (.pv (.int .i64 n)) []else none
 |some .string=>match x with
  |.pv (.str s)=>k (.pv (.int .i64 s.length)) []
  |_=>none
 |some (.slice e)=>ZB (bj E.P e) m x fun n ft=>k (.pv (.int .i64 n)) ft
 |some (.map _ _)=>abK m x fun n ft=>k (.pv (.int .i64 n)) ft
 |_=>none
def fY(m:Mem)(sz:Nat):V→Option (List PV×bN)
 |.pv (.rs s es)=>if s=sz then some (es,[])else match es with|[]=>some ([],[])|_=>none
 |.jB=>some ([],[])
 |.os id=>match m id with
  |some (.arr s' _ es)=>if s'=sz then some (es,[(false,id)])else none
  |some (.vF s' _ es)=>if s'=sz then some (es,[(false,id)])else none
  |_=>none
 |.gw id lo len=>match m id with
  |some (.arr s' _ es)=>if s'=sz then some ((es.drop lo).take len,[(false,id)])else none
  |some (.vF s' _ es)=>if s'=sz then some ((es.drop lo).take len,[(false,id)])else none
  |_=>none
 |.Cx id i off=>match m id with
  |some (.nest _ _ es)=>(es[i]?).bind fun e=>(fT sz (cell e off)).bind fun rs=>some (rs,[(false,id)])
  |_=>none
 |_=>none
def Pd(m:Mem)(sz:Nat)(x:V)(k:List PV→bN→Option R):Option R:=
 match x with
 |.Cx id i off=>match m id with
  |some (.nest _ _ es)=>(es[i]?).bind fun e=>(fT sz (cell e off)).bind fun rs=>k rs [(false,id)]
  |_=>none
 |x=>match fY m sz x with
  |some (es,ft)=>k es ft
  |none=>none
def HV:List PV→Option Bytes
 |[]=>some []
 |.int .u8 n::r=>(HV r).map fun b=>UInt8.ofNat n.toNat::b
 |_=>none
def HW(s d:TypeId)(a:V)(m:Mem)(k:PV→bN→Option R):Option R:=
 match E.P.underlying s,E.P.underlying d with
 |some (.slice e),some .string=>match E.P.underlying e,fY m 1 a with
  |some (.int .u8),some (es,ft)=>(HV es).bind fun b=>k (.str b) ft
  |_,_=>none
 |_,_=>Ku E s d a fun p=>k p []
def al(i:Int)(n:Nat):Prop:=0≤i∧i<(n:Int)
instance (i:Int) (n:Nat):Decidable (al i n):=inferInstanceAs (Decidable (_∧_))
def dB(t:TypeId)(x ix:V)(m:Mem)(k:V→bN→Option R):Option R:=
 match ix with
 |.pv (.int _ i)=>match E.P.underlying t,x with
  |some (.slice e),.pv (.rs s es)=>if s=bj E.P e∧0<s then(dA es i).bind fun p=>k (.pv (.rp (aQ s p))) []else none
  |some (.slice e),.os id=>match m id with
   |some (.arr s _ es)=>if s=bj E.P e∧0<s then(if al i es.length then k (.oe id i.toNat 0) [(false,id)]else none)else none
   |some (.vF s _ es)=>if s=bj E.P e∧0<s then(if al i es.length then k (.oe id i.toNat 0) [(false,id)]else none)else none
   |some (.nest s _ es)=>if s=bj E.P e∧0<s then(if al i es.length then k (.oe id i.toNat 0) [(false,id)]else none)else none
   |some (.box cs)=>if bj E.P e=1∧al i cs.length then k (.op id i.toNat) [(false,id)]else none
   |_=>none
  |some (.slice e),.Cx id i0 off=>match m id with
   |some (.nest _ _ es)=>if 0<bj E.P e then(es[i0]?).bind fun e0=>(fT (bj E.P e) (cell e0 off)).bind fun rs=>if al i rs.length then k (.GC id i0 off (bj E.P e) i.toNat 0) [(false,id)]else none else none
   |_=>none
  |some (.slice e),.gw id lo len=>match m id with
   |some (.arr s _ _)=>if s=bj E.P e∧0<s then(if al i len then k (.oe id (lo+i.toNat) 0) [(false,id)]else none)else none
   |some (.vF s _ _)=>if s=bj E.P e∧0<s then(if al i len then k (.oe id (lo+i.toNat) 0) [(false,id)]else none)else none
   |_=>none
  |some (.array n e),.op id off=>if al i n∧0<bj E.P e then k (.op id (off+i.toNat*bj E.P e)) []else none
  |some (.array n e),.pv (.rp cs)=>if al i n∧0<bj E.P e then k (.pv (.rp (cs.drop (i.toNat*bj E.P e)))) []else none
  |some (.array n e),.oe id j off=>if al i n∧0<bj E.P e then(match(match m id with|some (.arr s _ _)=>Nat.beq (bj E.P e) s|_=>false)with
   |true=>k (.oe id (i.toNat+j) off) [(false,id)]
   |false=>k (.oe id j (off+i.toNat*bj E.P e)) [(false,id)])else none
  |_,_=>none
 |_=>none
def GG(s:TypeId)(j:Nat):Option (Nat×TypeId):=
 match E.P.underlying s with
 |some (.struct fs)=>match fs[j]? with
  |some f=>if bj E.P f.type=0 then none else some (f.offset,f.type)
  |none=>none
 |_=>none
def l9(s:TypeId)(x:V)(j:Nat)(k:V→Option R):Option R:=
 match GG E s j with
 |some (o,_)=>match x with
  |.pv (.rp cs)=>k (.pv (.rp (cs.drop o)))
  |.op id off=>k (.op id (off+o))
  |.oe id i off=>k (.oe id i (off+o))
  |.GC id i off s j off2=>k (.GC id i off s j (off2+o))
  |_=>none
 |none=>none
def Kv(t:TypeId)(cs:List V)(off:Nat)(k:V→Option R):Option R:=
 if aN E.P t then(if off+bj E.P t≤cs.length then k (.agg ((cs.drop off).take (bj E.P t)))else none)
 else match cs[off]? with
  |some v=>GF E t v k
  |none=>none
def Kw(s:TypeId)(x:V)(j:Nat)(k:V→Option R):Option R:=
 match GG E s j,vR x with
 |some (o,t),some cs=>Kv E t cs o k
 |_,_=>none
def HX(t:TypeId)(x ix:V)(k:V→Option R):Option R:=
 match ix with
 |.pv (.int _ i)=>match E.P.underlying t,x with
  |some .string,.pv (.str s)=>(QR s i).bind fun b=>k (.pv (.int .u8 b.toNat))
  |some (.array n et),x=>match vR x with
   |some cs=>if al i n∧0<bj E.P et then Kv E et cs (i.toNat*bj E.P et) k else none
   |none=>none
  |_,_=>none
 |_=>none
def lJ(d:Int):Option V→Option Int
 |none=>some d
 |some (.pv (.int _ i))=>some i
 |_=>none
def AR(t:TypeId)(x:V)(lo hi mx:Option V)(m:Mem)(k:V→bN→Option R):Option R:=
 match mx with
 |some mx=>match E.P.underlying t,x with
  |some (.slice e),.os id=>match m id with
   |some (.arr s _ es)=>match lo,hi,mx with
    |none,some (.pv (.int _ h)),.pv (.int _ c)=>if 0≤h∧h≤c∧c≤(es.length:Int)∧s=bj E.P e then k (.gw id 0 h.toNat) [(false,id)]else none
    |_,_,_=>none
   |_=>none
  |_,_=>none
 |none=>match E.P.underlying t,x with
  |some .string,.pv (.str s)=>match lJ 0 lo,lJ s.length hi with
   |some l,some h=>if 0≤l∧l≤h∧h≤(s.length:Int)then k (.pv (.str ((s.take h.toNat).drop l.toNat))) []else none
   |_,_=>none
  |some (.slice e),.pv (.rs sz es)=>match lJ 0 lo,lJ es.length hi with
   |some l,some h=>if 0≤l∧l≤h∧h≤(es.length:Int)∧sz=bj E.P e∧bj E.P e≠0 then k (.pv (.rs sz ((es.take h.toNat).drop l.toNat))) []else none
   |_,_=>none
  |some (.slice e),.os id=>match m id with
   |some (.arr s _ es)=>match lJ 0 lo,lJ es.length hi with
    |some l,some h=>if 0≤l∧l≤h∧h≤(es.length:Int)∧s=bj E.P e then k (.gw id l.toNat (h.toNat-l.toNat)) [(false,id)]else none
    |_,_=>none
   |some (.vF s _ es)=>match lJ 0 lo,lJ es.length hi with
    |some l,some h=>if 0≤l∧l≤h∧h≤(es.length:Int)∧s=bj E.P e then k (.gw id l.toNat (h.toNat-l.toNat)) [(false,id)]else none
    |_,_=>none
   |_=>none
  |_,_=>none
def placesOf(fs:List Field)(j:Nat):Option (Nat×Nat):=(fs[j]?).map fun f=>(f.offset,bj E.P f.type)
def NI(place:Nat→Option (Nat×Nat))(cs:List V):List (Nat×V)→Option (List V)
 |[]=>some cs
 |(i,v)::rest=>match place i with
  |some (off,size)=>match toCells size v with
   |some new=>if off+size≤cs.length then NI place (bY cs off new) rest else none
   |none=>none
  |none=>none
def dC(t:TypeId):Option (List V):=match zeroV E.P t with|some v=>toCells (bj E.P t) v|none=>none
def HY(t:TypeId)(parts:List (Nat×V))(k:V→Option R):Option R:=
 match dC E t,E.P.underlying t with
 |some z,some (.struct fs)=>if fs.toList.all (fun f=>(E.P.info? f.type).isSome)then match NI (placesOf E fs.toList) z parts with
  |some cs=>k (.agg cs)
  |none=>none
  else none
 |some z,some (.array _ e)=>if 0<bj E.P e then match NI (fun i=>some (i*bj E.P e,bj E.P e)) z parts with
  |some cs=>k (.agg cs)
  |none=>none
  else none
 |_,_=>none
def fN(m:Mem)(n:Nat)(agg:Bool):Nat→List (Nat×V)→Option (List PV×Mem)
 |_,[]=>some ([],m)
 |i,(j,v)::r=>if i=j then match mK m n agg v with
  |some (p,m)=>match fN m n agg (i+1) r with
   |some (ps,m)=>some (p::ps,m)
   |none=>none
  |none=>none
  else none
def Kx:Nat→List (Nat×V)→Option (List V)
 |_,[]=>some []
 |i,(j,v)::r=>if i=j then match toCells 1 v with
  |some cs=>match Kx (i+1) r with
   |some us=>some (cs++us)
   |none=>none
  |none=>none
  else none
def V5(t:TypeId):Bool:=match E.P.underlying t with|some (.func _ _ _)=>true|_=>false
def HZ(t:TypeId):Option PV:=match zeroV E.P t with
 |some v=>match nu dn 2 v with
  |some p=>if aN E.P t=p.isAgg∧p.cells.length=bj E.P t∧p.plain=true then some p else none
  |none=>none
 |none=>none
def keyOf(kt:TypeId)(v:V):Option PV:=
 match yq E.P kt with
 |some ks=>
  if aN E.P kt then(match vR v with
   |some cs=>match uT (nu dn 1) cs with
    |some ps=>if mI ks ps then some (.agg ps)else none
    |none=>none
   |none=>none)
  else match v with
   |.pv p=>if mI ks [p]then some p else none
   |_=>none
 |none=>none
def QW(site:Nat)(t:TypeId)(x ix:V)(m:Mem)(k:V→Mem→bN→Option R):Option R:=
 match E.P.underlying t with
 |some (.map kt et)=>match E.P.underlying et with
  |some (.slice e)=>match x,zeroV E.P et with
   |.om id,some .jB=>match m id,m site with
    |some (.fS Ct e' es),none=>if Ct=kt∧e'=e∧0<bj E.P e then(keyOf E kt ix).bind fun key=>(QS (bj E.P e) key es).bind fun rs=>k (.os site) (aD (aD m id (.fS kt e (zX key es))) site (.arr (bj E.P e) e rs)) [(true,id),(true,site)]else none
    |_,_=>none
   |_,_=>none
  |_=>none
 |_=>none
def AS(t:TypeId)(x ix:V)(ok:Bool)(m:Mem)(k:V→bN→Option R):Option R:=
 match E.P.underlying t with
 |some (.map kt et)=>match HZ E et with
  |some z=>match x with
   |.om id=>match m id with
    |some (.map Ct es)=>if Ct=kt then(keyOf E kt ix).bind fun key=>jD E et (cB key z es) fun v=>k (if ok then .aG [.pv v,.pv (.bool (yb key es))]else .pv v) [(false,id)]else none
    |_=>none
   |.pv p=>cY kt p ((keyOf E kt ix).bind fun _=>k (if ok then .aG [.pv z,.pv (.bool false)]else .pv z) []) fun ks vs=>(keyOf E kt ix).bind fun key=>jD E et (cB key z (ks.zip vs)) fun v=>k (if ok then .aG [.pv v,.pv (.bool (yb key (ks.zip vs)))]else .pv v) []
   |_=>none
  |none=>none
 |_=>none
def GH(draw:Bool)(m:Mem)(v:V):Option (PV×Mem):=if draw then(match AP dn v with|some (p,_)=>some (p,m)|none=>none)else AP m v
def rR(draw:Bool)(t:TypeId)(x key val:V)(m:Mem)(k:Mem→bN→Option R):Option R:=
 match E.P.underlying t with
 |some (.map kt _)=>match x with
  |.om id=>match GH draw m val with
   |some (v,m)=>match m id with
    |some (.map Ct es)=>if Ct=kt then(keyOf E kt key).bind fun key=>k (aD m id (.map kt (dI key v es))) [(true,id)]else none
    |_=>none
   |none=>none
  |_=>none
 |_=>none
def ah:Nat:=140737488355328
def nN(m:Mem):Nat→List V→Option (List PV×Option (Nat×Nat))
 |_,[]=>some ([],none)
 |j,.os id::r=>match m id with
  |some (.arr s _ es)=>match nN m (j+1) r with
   |some (ps,none)=>some (.uS s es::ps,some (j,id))
   |_=>none
  |_=>none
 |j,v::r=>match nu dn 1 v with
  |some p=>match nN m (j+1) r with
   |some (ps,t)=>some (p::ps,t)
   |none=>none
  |none=>none
def elemOf(agg:Bool)(ps:List PV):Option PV:=if agg then some (.agg ps)else match ps with|[p]=>some p|_=>none
inductive Sp where
 |st (id i off s:Nat) (et:TypeId) (es ps:List PV) (id2:Nat)
 |app (id s:Nat) (et:TypeId) (es new:List PV) (src:Option Nat) (rd:bN)
 |lit (s:Nat) (et:TypeId) (p:PV) (id2:Nat)
 |upd (id:Nat) (kt e:TypeId) (es:List (PV×PV)) (key:PV) (s:Nat) (rs:List PV) (id2:Nat)
def Fy(site:Nat)(o:Oper)(f:Fr)(m:Mem):Option Sp:=
 match o.op with
 |.store t a x=>match bQ E f a with
  |.oe id i off=>match m id with
   |some (.nest s et es)=>match toCells (bj E.P t) (bQ E f x)with
    |some cs=>match nN m 0 cs with
     |some (ps,some (_,id2))=>if off+bj E.P t≤s&&0<bj E.P t&& !(Nat.beq id2 id)then some (.st id i off s et es ps id2)else none
     |_=>none
    |none=>none
   |_=>none
  |_=>none
 |.buildSlice t len parts=>match E.P.underlying t,parts.toList.map fun(i,x)=>(i,bQ E f x)with
  |some (.slice e),[(0,v)]=>match toCells (bj E.P e) v with
   |some cs=>match nN m 0 cs,m site with
    |some (ps,some (_,id2)),none=>match elemOf (aN E.P e) ps with
     |some p=>if Nat.beq len 1&&0<bj E.P e&&bj E.P e≤16777216&&(dC E e).isSome then some (.lit (bj E.P e) e p id2)else none
     |none=>none
    |_,_=>none
   |none=>none
  |_,_=>none
 |.call c=>match c.callee,c.args.toList.map (bQ E f),c.argTypes.toList with
  |.builtin .append,[.os id,x],[t,t']=>match E.P.underlying t,m id with
   |some (.slice e),some (.nest s et es)=>if et=e&&s=bj E.P e&&decide (t'=t)&&(dC E e).isSome&&0<bj E.P e&&0<M9 E.P e then(match x with
    |.os ye=>match m ye with
     |some (.nest s' M5 new)=>if Nat.beq s' s&&decide (M5=et)&& !(Nat.beq ye id)then some (.app id s et es new (some ye) [])else none
     |_=>match fY m s x with
      |some (new,rd)=>if x.has id then none else some (.app id s et es new none rd)
      |none=>none
    |_=>match fY m s x with
     |some (new,rd)=>if x.has id then none else some (.app id s et es new none rd)
     |none=>none)else none
   |_,_=>none
  |_,_,_=>none
 |.mapUpdate t x key v=>match E.P.underlying t,bQ E f x,bQ E f v with
  |some (.map kt _),.om id,.os id2=>match m id,m id2,keyOf E kt (bQ E f key)with
   |some (.fS Ct e es),some (.arr s e' rs),some key=>if decide (Ct=kt)&&decide (e'=e)&&Nat.beq s (bj E.P e)then some (.upd id kt e es key s rs id2)else none
   |_,_,_=>none
  |_,_,_=>none
 |_=>none
def Sp.info(site:Nat):Sp→Kl×bN
 |.st id _ _ _ _ _ _ id2=>([(true,id2),(false,id)],[(true,id),(true,id2)])
 |.app id _ _ _ _ (some id2) _=>([(true,id2),(true,id)],[(true,id),(true,id2)])
 |.app id _ _ _ _ none rd=>([(true,id)],(true,id)::rd)
 |.lit _ _ _ id2=>([(true,id2)],[(true,site),(true,id2)])
 |.upd id _ _ _ _ _ _ id2=>([(true,id2),(false,id)],[(true,id),(true,id2)])
def xsp(site:Nat)(sp:Sp)(f:Fr)(m:Mem)(k:V→Fr→Mem→bN→Option R):Option R:=
 match sp with
 |.st id i off s et es ps id2=>(es[i]?).bind fun e=>k .top (kf [(true,id2),(false,id)] f) (zV [(id,.nest s et (es.set i (if s=1 then ps.headD .bad else .agg (bY (aQ s e) off ps))))] (km [(true,id2),(false,id)] m)) [(true,id),(true,id2)]
 |.app id s et es new src rd=>if(es++new).length*M9 E.P et≤ah then k (.os id) (kf (Sp.app id s et es new src rd|>.info site).1 f) (zV [(id,.nest s et (es++new))] (km (Sp.app id s et es new src rd|>.info site).1 m)) (Sp.app id s et es new src rd|>.info site).2 else none
 |.lit s et p id2=>k (.os site) (kf [(true,id2)] f) (zV [(site,.nest s et [p])] (km [(true,id2)] m)) [(true,site),(true,id2)]
 |.upd id kt e es key s rs id2=>k .top (kf [(true,id2),(false,id)] f) (zV [(id,.fS kt e (dI key (.uS s rs) es))] (km [(true,id2),(false,id)] m)) [(true,id),(true,id2)]
def GI(draw:Bool)(site:Nat)(t t':TypeId)(s x:V)(f:Fr)(m:Mem)(k:V→Fr→Mem→Option R):Option R:=
 if draw|| !(decide (t'=t))then none else
 match E.P.underlying t with
 |some (.slice e)=>if(dC E e).isNone then none else match fY m (bj E.P e) x with
  |some (new,_)=>match s with
   |.jB=>if new.length*M9 E.P e≤ah∧0<M9 E.P e∧0<bj E.P e then fresh draw site (.arr (bj E.P e) e new) f m (fun f m _=>k (.os site) f m)else none
   |.os id=>match m id with
    |some (.arr sz et es)=>if et=e∧sz=bj E.P e∧x.has id=false then(if(es++new).length*M9 E.P e≤ah∧0<M9 E.P e then fresh draw id (.arr sz e (es++new)) (fC id f) (bF (bR id m) id) (fun f m _=>k (.os id) f m)else none)else none
    |_=>none
   |_=>none
  |none=>none
 |_=>none
def QX(t:TypeId)(d x:V)(m:Mem)(k:V→Mem→bN→Option R):Option R:=
 match E.P.underlying t with
 |some (.slice e)=>match d with
  |.os id=>match m id with
   |some (.arr sz et es)=>if sz=bj E.P e∧x.has id=false then Pd m sz x fun new ft=>k (.pv (.int .i64 (min new.length es.length:Nat))) (aD m id (.arr sz et (new.take es.length++es.drop new.length))) ((true,id)::ft)else none
   |_=>none
  |_=>none
 |_=>none
def Ky(t:TypeId)(x:V)(m:Mem)(k:V→Mem→bN→Option R):Option R:=
 match E.P.underlying t with
 |some (.slice e)=>match x,HZ E e with
  |.gw id lo len,some z=>match m id with
   |some (.arr sz et es)=>if sz=bj E.P e∧et=e∧lo+len≤es.length∧0<bj E.P e then k .top (aD m id (.arr sz et (es.take lo++(List.replicate len z++es.drop (lo+len))))) [(true,id)]else none
   |_=>none
  |_,_=>none
 |_=>none
def vS(draw:Bool)(site:Nat)(t:TypeId)(len cap:V)(f:Fr)(m:Mem)(k:V→Fr→Mem→bN→Option R):Option R:=
 match E.P.underlying t,len,cap with
 |some (.slice e),.pv (.int _ n),.pv (.int _ c)=>match HZ E e with
  |some z=>if 0≤n∧n≤c∧c.toNat*M9 E.P e≤ah∧0<M9 E.P e∧0<bj E.P e then fresh draw site (.arr (bj E.P e) e (List.replicate n.toNat z)) f m (fun f m ft=>k (.os site) f m ft)else none
  |none=>none
 |_,_,_=>none
def QY(a b:V)(k:PV→Option R):Option R:=match a,b with
 |.pv (.int q x),.pv (.int q' y)=>if q=q' then k (.int q (if y<x then y else x))else none
 |_,_=>none
def I5(a b:V)(k:PV→Option R):Option R:=match a,b with
 |.pv (.int q x),.pv (.int q' y)=>if q=q' then k (.int q (if y>x then y else x))else none
 |_,_=>none
def QZ(a b c d:V)(k:PV→Option R):Option R:=I5 a b fun p=>I5 (.pv p) c fun p=>I5 (.pv p) d k
def AU(t:TypeId):Bool:=match E.P.underlying t with|some (.int _)|some .bool|some .string=>true|_=>false
def j7(m:Mem):List V→Option (List PV×Mem)
 |[]=>some ([],m)
 |v::r=>match AP m v with
  |some (p,m)=>match j7 m r with
   |some (ps,m)=>some (p::ps,m)
   |none=>none
  |none=>none
def NJ:PV→PV
 |.int q n=>.int q n
 |.bool b=>.bool b
 |.str s=>.str s
 |_=>.bad
def BW(draw:Bool)(site:Nat)(fid:FuncId)(args:List V)(f:Fr)(m:Mem)(k:V→Fr→Mem→bN→Option R):Option R:=
 match E.ctx fid with
 |some M=>match E.P.funcs[fid]? with
  |some fn=>
   if fn.resultTypes.toList.all (AU E)then(match uT (nu m fl) args with
     |some ps=>(M ps).bind fun r=>I4 E fn.resultTypes.toList r fun v=>k v f m ((j6 (db m fl) args).map fun i=>(false,i))
     |none=>none)
   else(match j7 (if draw then dn else m) args with
     |some (ps,m')=>(M ps).bind fun r=>HT E fid fn.resultTypes.toList r fun v=>k v f (if draw then m else m') (if draw then[]else[(true,0)])
     |none=>none)
  |none=>none
 |none=>match E.own fid with
  |some M=>match E.P.funcs[fid]? with
   |some fn=>match fn.resultTypes.toList with
    |[t]=>match E.P.underlying t with
     |some (.slice e)=>if AU E e=true∧bj E.P e=1 then(match uT (nu m fl) args with
      |some ps=>(M ps).bind fun r=>(ao (bj E.P e) r).bind fun es=>fresh draw site (.arr (bj E.P e) e (es.map NJ)) f m fun f m1 ft=>k (.os site) f m1 (ft++(j6 (db m fl) args).map fun i=>(false,i))
      |none=>none)
      else match j7 (if draw then dn else m) args with
      |some (ps,m')=>(M ps).bind fun r=>(ao (bj E.P e) r).bind fun es=>fresh draw site (.arr (bj E.P e) e es) f (if draw then m else m') fun f m ft=>k (.os site) f m ft
      |none=>none
     |_=>none
    |_=>none
   |none=>none
  |none=>if draw then none else E.inl R fid (site*4096+fid) args f m fun v f m=>k v f m [(true,0)]
def abL(f:TypeId→Option (List TypeId)):List Field→Option (List TypeId)
 |[]=>some []
 |x::r=>(f x.type).bind fun a=>(abL f r).bind fun b=>some (a++b)
def abM(l:List TypeId):Nat→List TypeId
 |0=>[]
 |n+1=>l++abM l n
def Kz(P:Program):Nat→TypeId→Option (List TypeId)
 |0,_=>none
 |d+1,t=>match P.underlying t with
  |some (.struct fs)=>abL (Kz P d) fs.toList
  |some (.array n e)=>(Kz P d e).bind fun l=>some (abM l n)
  |some _=>some [t]
  |none=>none
def BX(n:Nat)(args:List V)(f:Fr):Fr:=fun t=>bif Nat.blt t n then args.getD t .top else f (t-n)
def CA(n:Nat)(f:Fr):Fr:=fun t=>f (t+n)
def abN:V→Bool
 |.jB=>true
 |_=>false
def zY(site j:Nat):Nat:=site+(j+1)*1606938044258990275541962092341162602522202993782792835301376
def Eh(E:Env){R:Type}(site:Nat):List TypeId→Nat→Fr→Mem→(Fr→Mem→Option R)→Option R
 |[],_,F,m,k=>k F m
 |t::ts,j,F,m,k=>match F j with
  |.jB=>match E.P.underlying t with
   |some (.slice e)=>if 0<bj E.P e then fresh false (zY site j) (.arr (bj E.P e) e []) F m fun F m _=>Eh E site ts (j+1) (ig F j (.os (zY site j))) m k else none
   |_=>none
  |_=>Eh E site ts (j+1) F m k
def amp(E:Env)(t:TypeId):Bool:=match E.P.underlying t with|some (.slice _)=>true|_=>false
def Pe(f:Fr):Option Operand→Bool
 |none=>true
 |some x=>match bQ E f x with|.pv (.int _ _)=>true|_=>false
noncomputable def yt(n:Nat)(g:Nat→Option R):Option R:= @dite _ (∃r,∀i,i<n→g i=some r) (Classical.propDecidable _) (fun h=>some (Classical.choose h)) fun _=>none
def TN(site:Nat)(t:TypeId)(x:V)(f:Fr)(m:Mem)(k:V→Fr→Mem→Option R):Option R:=
 match E.P.underlying t with
 |some (.map kt _)=>match x with
  |.om id=>match m id with
   |some (.map Ct es)=>if Ct=kt then fresh false site (.iter t es none) (fC id f) (bF (bR id m) id) fun f m _=>k (.it site) f m else none
   |_=>none
  |_=>none
 |_=>none
noncomputable def abO(x:V)(f:Fr)(m:Mem)(k:V→Fr→Mem→Option R):Option R:=
 match x with
 |.it id=>match m id with
  |some (.iter t es _)=>match E.P.underlying t with
   |some (.map kt et)=>if es.isEmpty=true then k (.aG [.pv (.bool false)]) f m else yt es.length fun i=>(es[i]?).bind fun e=>jD E kt e.1 fun a=>jD E et e.2 fun b=>k (.aG [.pv (.bool true),.pv a,.pv b]) f (aD m id (.iter t (es.eraseIdx i) (some (a,b))))
   |_=>none
  |_=>none
 |_=>none
def TO(x:V)(m:Mem)(k:V→Mem→Option R):Option R:=
 match x with
 |.it id=>match m id with
  |some (.iter t es (some (a,b)))=>k (.aG [.pv a,.pv b]) (aD m id (.iter t es none))
  |_=>none
 |_=>none
def TP:Op→Bool
 |.range .. =>true
 |.next .. =>true
 |.entry .. =>true
 |_=>false
def BZ(g:FuncId):FuncId:=bif Nat.blt g Kr then g else g-Kr
def Fz(g:FuncId)(caps args:List V):List V:=bif Nat.blt g Kr then args++caps else caps++args
noncomputable def cP(draw:Bool)(site:Nat)(o:Oper)(f:Fr)(m:Mem)(k:V→Fr→Mem→bN→Option R):Option R:=
 match o.op with
 |.move x=>k (bQ E f x) f m []
 |.assign x=>match bQ E f x with
  |.jB=>match E.P.underlying o.type with
   |some (.slice e)=>if 0<bj E.P e then fresh draw site (.arr (bj E.P e) e []) f m fun f m ft=>k (.os site) f m ft else none
   |_=>k .jB f m []
  |v=>k v f m []
 |.pick c a b=>match bQ E f c with
  |.pv (.bool t)=>if t then k (bQ E f a) f m []else k (bQ E f b) f m []
  |_=>none
 |.alloc t=>match dC E t with
  |some cs=>bif E.J4 site then(match E.P.underlying t,uT pvO cs with
   |some (.array n e),some ps=>if aN E.P e=true∧n*bj E.P e=bj E.P t∧0<bj E.P e∧n≤16777216 then fresh draw site (.arr (bj E.P e) e (fX (bj E.P e) n (.agg ps))) f m fun f m ft=>k (.oe site 0 0) f m ft else none
   |_,_=>none)
   else if !draw&&amp E t then Eh E site [t] 0 (BX cs.length cs f) m fun F m=>fresh false site (.box ((List.range cs.length).map F)) (CA cs.length F) m fun f m ft=>k (.op site 0) f m ft
   else fresh draw site (.box cs) f m fun f m ft=>k (.op site 0) f m ft
  |none=>none
 |.box t x=>match toCells (bj E.P t) (bQ E f x)with
  |some cs=>if !draw&&cs.any abN then(match Kz E.P 8 t with
   |some ts=>if ts.length=cs.length then Eh E site ts 0 (BX cs.length cs f) m fun F m=>fresh false site (.box ((List.range cs.length).map F)) (CA cs.length F) m fun f m ft=>k (.op site 0) f m ft else none
   |none=>none)else fresh draw site (.box cs) f m fun f m ft=>k (.op site 0) f m ft
  |none=>none
 |.build t parts=>HY E t (parts.toList.map fun(i,x)=>(i,bQ E f x)) fun v=>k v f m []
 |.buildSlice t len parts=>match E.P.underlying t with
  |some (.slice e)=>if V5 E e then(match Kx 0 (parts.toList.map fun(i,x)=>(i,bQ E f x))with
   |some cs=>if parts.size=len∧bj E.P e=1∧len≤16777216∧(dC E e).isSome=true then fresh draw site (.box cs) f m fun f m ft=>k (.os site) f m ft else none
   |none=>none)
   else if E.J4 (site+1000000000000000000000000000000)then(match fN dn (bj E.P e) (aN E.P e) 0 (parts.toList.map fun(i,x)=>(i,bQ E f x))with
   |some (es,_)=>if es.length=len∧0<bj E.P e∧len*bj E.P e≤16777216∧(dC E e).isSome=true then k (.pv (.rs (bj E.P e) es)) f m []else none
   |none=>none)
   else match fN (if draw then dn else m) (bj E.P e) (aN E.P e) 0 (parts.toList.map fun(i,x)=>(i,bQ E f x))with
   |some (es,m1)=>if es.length=len∧0<bj E.P e∧len*bj E.P e≤16777216∧(dC E e).isSome=true then fresh draw site (.arr (bj E.P e) e es) f (if draw then m else m1) fun f m ft=>k (.os site) f m ft else none
   |none=>none
  |_=>none
 |.load t a=>uH E (E.J4 site) t (bQ E f a) m fun v ft=>k v f m ft
 |.store t a x=>yZ E draw t (bQ E f a) (bQ E f x) m fun m ft=>k .top f m ft
 |.nilCheck x=>match bQ E f x with
  |.pv (.rp cs)=>k (.pv (.rp cs)) f m []
  |.op id off=>k (.op id off) f m []
  |.oe id i off=>k (.oe id i off) f m []
  |.GC id i off s j off2=>k (.GC id i off s j off2) f m []
  |.fn g cs=>k (.fn g cs) f m []
  |.pv (.fn g cs)=>k (.pv (.fn g cs)) f m []
  |_=>none
 |.binOp op t x y _=>match bQ E f x,bQ E f y with
  |.pv (.rs _ es),.jB=>if draw then none else TL E op t es fun b=>k (.pv (.bool b)) f m [(true,0)]
  |a,b=>QU E op t y a b fun p=>k (.pv p) f m []
 |.unOp op _ x=>xun op (bQ E f x) fun p=>k (.pv p) f m []
 |.convert s d x=>HW E s d (bQ E f x) m fun p ft=>k (.pv p) f m ft
 |.makeFunc (.func g) first caps=>bif Nat.blt g Kr then(if first.isEmpty then k (.fn g (caps.toList.map (bQ E f))) f m []else if caps.isEmpty then k (.fn (g+Kr) (first.toList.map (bQ E f))) f m []else none)else none
 |.makeMap t hint=>if Pe E f hint=true then match E.P.underlying t with
  |some (.map kt et)=>if(yq E.P kt).isSome then(if E.J4 site then(match E.P.underlying et with
   |some (.slice e)=>fresh draw site (.fS kt e []) f m fun f m ft=>k (.om site) f m ft
   |_=>none)
   else fresh draw site (.map kt []) f m fun f m ft=>k (.om site) f m ft)else none
  |_=>none
  else none
 |.makeSlice t l c=>vS E draw site t (bQ E f l) (bQ E f c) f m k
 |.slice t x lo hi mx=>AR E t (bQ E f x) (lo.map (bQ E f)) (hi.map (bQ E f)) (mx.map (bQ E f)) m fun v ft=>k v f m ft
 |.fieldAddr s x j=>l9 E s (bQ E f x) j fun v=>k v f m []
 |.field s x j=>Kw E s (bQ E f x) j fun v=>k v f m []
 |.indexAddr t x ix=>dB E t (bQ E f x) (bQ E f ix) m fun v ft=>k v f m ft
 |.index t x ix=>HX E t (bQ E f x) (bQ E f ix) fun v=>k v f m []
 |.lookup t x ix ok=>if E.J4 site&& !ok then QW E site t (bQ E f x) (bQ E f ix) m fun v m ft=>k v f m ft else AS E t (bQ E f x) (bQ E f ix) ok m fun v ft=>k v f m ft
 |.mapUpdate t x key v=>rR E draw t (bQ E f x) (bQ E f key) (bQ E f v) m fun m ft=>k .top f m ft
 |.insert t x key v=>rR E draw t (bQ E f x) (bQ E f key) (bQ E f v) m fun m ft=>k .top f m ft
 |.range t x=>if draw then none else TN E site t (bQ E f x) f m fun v f m=>k v f m [(true,0)]
 |.next x s=>if draw||s then none else abO E (bQ E f x) f m fun v f m=>k v f m [(true,0)]
 |.entry x=>if draw then none else TO (bQ E f x) m fun v m=>k v f m [(true,0)]
 |.extract t i=>match bQ E f t with
  |.aG vs=>match vs[i]? with
   |some v=>k v f m []
   |none=>none
  |_=>none
 |.call c=>match c.callee,c.args.toList.map (bQ E f)with
  |.builtin .len,[x]=>match c.argTypes.toList with
   |[t]=>QV E t x m fun v ft=>k v f m ft
   |_=>none
  |.builtin .append,[s,x]=>match c.argTypes.toList with
   |[t,t']=>GI E draw site t t' s x f m fun v f m=>k v f m [(true,0)]
   |_=>none
  |.builtin .copy,[d,x]=>match c.argTypes.toList with
   |t::_=>QX E t d x m fun v m ft=>k v f m ft
   |_=>none
  |.builtin .clear,[x]=>match c.argTypes.toList with
   |t::_=>Ky E t x m fun v m ft=>k v f m ft
   |_=>none
  |.builtin .min,[a,b]=>QY a b fun p=>k (.pv p) f m []
  |.builtin .max,[a,b]=>I5 a b fun p=>k (.pv p) f m []
  |.builtin .max,[a,b,c,d]=>QZ a b c d fun p=>k (.pv p) f m []
  |.value (.func g),args=>BW E draw site g args f m k
  |.value (.tmp t),args=>match bQ E f (.tmp t)with
   |.fn g caps=>BW E draw site (BZ g) (Fz g caps args) f m k
   |.pv (.fn g caps)=>BW E draw site (BZ g) (Fz g (caps.map .pv) args) f m k
   |.yl id=>if draw then none else E.yl R E.fn.ntmps site id args f m fun v f m=>k v f m [(true,0)]
   |_=>none
  |_,_=>none
 |_=>none
noncomputable def Q0(draw:Bool)(site:Nat)(o:Oper)(f:Fr)(m:Mem)(k:V→Fr→Mem→bN→Option R):Option R:=
 match(bif draw then none else bif E.J4 site then Fy E site o f m else none)with
 |some sp=>xsp E site sp f m k
 |none=>cP E draw site o f m k
def fU(o:Oper):Bool:=
 match o.op with
 |.move _|.assign _|.pick .. |.load .. |.nilCheck _|.binOp .. |.unOp .. |.convert .. |.slice .. |.fieldAddr .. |.field .. |.indexAddr .. |.index .. |.lookup .. |.extract .. |.build .. =>true
 |.call {callee:=.builtin .len,.. }|.call {callee:=.builtin .min,.. }|.call {callee:=.builtin .max,.. }=>true
 |.call {callee:=.value _,.. }=>true
 |_=>false
def GJ:bN→Bool
 |[]=>true
 |(w,_)::r=> !w&&GJ r
abbrev Log:=List (Nat×Bool×Nat)
def KA(o:Oper)(j:Nat):Bool:=o.after.toList.any fun e=>Region.binds .any e&&Nat.beq e.on j
mutual
def V.ids:V→List Nat
 |.agg cs=>Q1 cs
 |.aG cs=>Q1 cs
 |.fn _ cs=>Q1 cs
 |.os j=>[j]
 |.gw j _ _=>[j]
 |.oe j _ _=>[j]
 |.om j=>[j]
 |.Cx j _ _=>[j]
 |.GC j _ _ _ _ _=>[j]
 |.op j _=>[j]
 |.yl j=>[j]
 |.it j=>[j]
 |_=>[]
def Q1:List V→List Nat
 |[]=>[]
 |v::r=>v.ids++Q1 r
end
def KB:Option bW→List Nat
 |some (.box cs)=>Q1 cs
 |_=>[]
def Ei(n:Nat):Nat:=n+2037035976334486086268445688409378161051468393665936250636140449354381299763336706183397376
def Pf(m m':Mem):bN→List Nat
 |[]=>[]
 |x::r=>KB (m x.2)++KB (m' x.2)++Pf m m' r
def J5(ops:Array Oper)(o:Oper)(f:Fr)(m m':Mem)(v:V)(ft:bN):List Nat:=Q1 ((o.looksAt ops).map f)++v.ids++Pf m m' ft
def cR(E:Env)(d:Option Nat):Nat:=match d with|some d=>E.fid*4096+d|none=>E.fid*4096+4095
def isApp(E:Env)(o:Oper):Bool:=E.J4 (cR E o.dst)||match o.op with|.call {callee:=.builtin .append,.. }=>true|_=>false
def AV(E:Env)(f:Fr)(m:Mem)(o:Oper):Option (Nat×bN):=
 match o.op with
 |.call c=>match c.callee,c.args.toList.map (bQ E f),c.argTypes.toList with
  |.builtin .append,[.os id,x],[t,_]=>match E.P.underlying t with
   |some (.slice e)=>match fY m (bj E.P e) x with
    |some (_,rd)=>if x.has id then none else some (id,rd)
    |none=>none
   |_=>none
  |_,_,_=>none
 |_=>none
def Pg(E:Env)(f:Fr)(m:Mem)(o:Oper):Option (Kl×bN):=
 match(bif E.J4 (cR E o.dst)then Fy E (cR E o.dst) o f m else none)with
 |some sp=>some (sp.info (cR E o.dst))
 |none=>match AV E f m o with
  |some (id,rd)=>some ([(true,id)],(true,id)::rd)
  |none=>none
def reach(ops:Array Oper):Nat→Oper→Nat→Bool
 |0,o,j=>KA o j
 |n+1,o,j=>KA o j||o.after.toList.any fun e=>Region.binds .any e&&match ops[e.on]? with|some p=>reach ops n p j|none=>false
def V6(ops:Array Oper)(o:Oper)(w:Bool)(id:Nat):Log→Bool
 |[]=>true
 |(j,w',ye)::r=>(!(Nat.beq id ye)||(!w&& !w')||reach ops 4 o j)&&V6 ops o w id r
def H0(ops:Array Oper)(o:Oper)(lg:Log):bN→Bool
 |[]=>true
 |(w,id)::r=>V6 ops o w id lg&&H0 ops o lg r
def J6(ops:Array Oper)(o:Oper)(id:Nat):Log→Bool
 |[]=>true
 |(j,_,n)::r=>(!(Nat.beq n (Ei id))||reach ops 4 o j)&&J6 ops o id r
def Ej(ops:Array Oper):List (Nat×Oper)→Oper→Bool
 |[],_=>true
 |(j,p)::r,o=>(p.apart ops o||reach ops 4 o j)&&Ej ops r o
def sw(ops:Array Oper):List (Nat×Oper)→List (Nat×Oper)→Bool
 |_,[]=>true
 |done,(i,o)::r=>o.after.toList.all (fun e=> !(Region.binds .any e)||Nat.blt e.on i)&&Ej ops done o&&sw ops ((i,o)::done) r
def guardOf(o:Oper)(A:List (Nat×Bool)):Option (Nat×Bool):=
 match o.guard with
 |none=>none
 |some g=>if A.elem g then none else some g
def I6(A:List (Nat×Bool)):List (Nat×Oper)→List (Nat×Oper)×List (Nat×Oper)
 |[]=>([],[])
 |x::r=>match guardOf x.2 A with
  |some _=>let(a,b):=I6 A r;(x::a,b)
  |none=>([],x::r)
def pI(f:Fr):List (Nat×Oper)→Fr
 |[]=>f
 |x::r=>pI (kN f x.2.dst .top) r
def CB(g:Nat×Bool):List Nat→List (Nat×Oper)→Bool
 |_,[]=>true
 |done,x::r=>(match x.2.guard with
  |some h=>(Nat.beq h.1 g.1&&(h.2==g.2))||done.elem h.1
  |none=>false)&&CB g (x.1::done) r
def blind(ops:Array Oper)(body:List (Nat×Oper))(o:Oper):Bool:=body.all fun y=>match y.2.dst with
  |some d=> !((o.looksAt ops).elem d)
  |none=>true
def NK:Bool→Bool→Bool
 |true,b=>b
 |false,b=> !b
def j8(f:Fr):List (Nat×Oper)→Fr
 |[]=>f
 |x::r=>j8 (kN f x.2.dst (.aG [])) r
def EX:V→Option Bool
 |.pv (.bool b)=>some b
 |_=>none
end
def CC(E:Env)(o:Oper):Bool:=match o.dst with|some d=>Nat.blt d E.fn.ntmps|none=>true
def Ph(E:Env)(g:FuncId):Bool:=match E.P.funcs[g]? with|some fn=>fn.resultTypes.toList.all (AU E)|none=>false
def agm(E:Env)(f:Fr)(body:List (Nat×Oper))(o:Oper):Bool:=
 fU o&&match o.op with
 |.call {callee:=.value (.func g),.. }=>(E.ctx g).isSome&&Ph E g
 |.call {callee:=.value (.tmp t),.. }=>match(match body.find? (fun x=>x.2.dst==some t)with
  |some (_,p)=>(match p.op with
   |.move y=>bQ E f y
   |.assign y=>bQ E f y
   |_=>.top)
  |none=>bQ E f (.tmp t))with
  |.fn g _=>(E.ctx (BZ g)).isSome&&Ph E (BZ g)
  |.pv (.fn g _)=>(E.ctx (BZ g)).isSome&&Ph E (BZ g)
  |.yl _=>false
  |_=>true
 |_=>true
noncomputable def cw(E:Env)(ops:Array Oper)(mode:Nat):(fuel:Nat)→(R:Type)→List (Nat×Bool)→List (Nat×Oper)→Fr→Mem→Log→(Fr→Mem→Option R)→Option R
 |0,_,_,_,_,_,_,_=>none
 |_+1,_,_,[],f,m,_,k=>k f m
 |fuel+1,R,A,(i,o)::rest,f,m,lg,k=>
  match guardOf o A with
  |none=>
   if CC E o then
    match(bif Nat.beq mode 2 then Pg E f m o else none)with
    |some (kl,ft)=>
     if H0 ops o lg ft&&kl.all (fun x=>J6 ops o x.2 lg)&&rest.all (fun x=>reach ops 4 x.2 i)then Q0 E false (cR E o.dst) o f m fun v f1 m1 _=>cw E ops mode fuel R A rest (kN f1 o.dst v) m1 (ft.map (fun x=>(i,x))++lg) k
     else none
    |none=>Q0 E (Nat.beq mode 1||Nat.beq mode 2) (cR E o.dst) o f m fun v f1 m1 ft=>
      if Nat.beq mode 2 then(if H0 ops o lg ft then cw E ops mode fuel R A rest (kN f1 o.dst v) m1 ((bif ops.toList.any (isApp E)then(J5 ops o f m m1 v ft).map (fun n=>(i,false,Ei n))else[])++(ft.map (fun x=>(i,x))++lg)) k else none)
      else if Nat.beq mode 0 then cw E ops mode fuel R A rest (kN f1 o.dst v) m1 lg k
      else if GJ ft then cw E ops mode fuel R A rest (kN f1 o.dst v) m1 lg k
      else none
   else none
  |some (j,JQ)=>
   match((ops[j]?).bind (·.dst))with
   |some tj=>match bQ E f (.tmp tj)with
    |.pv (.bool b)=>
     match I6 A ((i,o)::rest)with
     |(body,Q2)=>
     if Nat.beq mode 0&& !(body.all fun x=>agm E f body x.2)then
      (if(body.all fun x=>CC E x.2)&&CB (j,JQ) [] body&&((i,o)::rest).all (fun x=> !(x.2.dst==some tj))then
       bif NK JQ b then cw E ops mode fuel R ((j,JQ)::A) ((i,o)::rest) (ig f tj (.pv (.bool JQ))) m lg k
       else cw E ops mode fuel R A Q2 (j8 (ig f tj (.pv (.bool !JQ))) body) m lg k
      else none)
     else match Q2 with
     |(_,p)::pJ=>
      match p.op with
      |.pick (.tmp c) x y=>
       if Nat.beq c tj&&(guardOf p A).isNone&&body.all (fun x=>fU x.2&&CC E x.2&& !(x.2.dst==some tj))&&CB (j,JQ) [] body&&pJ.all (fun x=>blind ops body x.2)&&CC E p&& !(Nat.beq mode 2)then
        (match JQ with
         |true=>bif b then cw E ops (bif Nat.beq mode 0 then 3 else mode) fuel Bool ((j,JQ)::A) body f m lg (fun f _=>EX (bQ E f x))else EX (bQ E (pI f body) y)
         |false=>bif b then EX (bQ E (pI f body) x)else cw E ops (bif Nat.beq mode 0 then 3 else mode) fuel Bool ((j,JQ)::A) body f m lg (fun f _=>EX (bQ E f y))).bind fun r=>
        cw E ops mode fuel R A pJ (kN (pI f body) p.dst (.pv (.bool r))) m lg k
       else none
      |_=>none
     |[]=>none
    |_=>none
   |none=>none
inductive Ex where
 |normal
 |exit (id:Nat)
 |ret
def Q3{R:Type}(body:Fr→Mem→(Fr→Mem→Option R)→Option R):Nat→Fr→Mem→Option R
 |0,_,_=>none
 |n+1,f,m=>body f m (Q3 body n)
def Ek:Code→Nat
 |.region id _ _=>id
 |.seq a _=>Ek a
 |.cond _ a _=>Ek a
 |.block _ b=>Ek b
 |.loop b=>Ek b
 |.scope b=>Ek b
 |_=>0
def V7:List Sh→Type→Type
 |[],T=>T
 |.raw::r,T=>PV×V7 r T
 |.int _::r,T=>Int×V7 r T
 |.bool::r,T=>Bool×V7 r T
 |.str::r,T=>Bytes×V7 r T
 |.rs _::r,T=>List PV×V7 r T
 |.rp _::r,T=>PV×V7 r T
 |.fs _::r,T=>List PV×V7 r T
 |.row _ _::r,T=>Int×V7 r T
 |.own _::r,T=>V7 r T
def Qx:List (Nat×GB)→Type
 |[]=>Unit
 |(_,.box cs)::r=>V7 cs (Qx r)
 |(_,.arr _ _)::r=>List PV×Qx r
 |(_,.vF _ _)::r=>List PV×Qx r
 |(_,.map _)::r=>List (PV×PV)×Qx r
 |(_,.nest _ _)::r=>List PV×Qx r
 |(_,.fS _ _)::r=>List (PV×PV)×Qx r
 |(_,.loop)::r=>Qx r
 |(_,.busy)::r=>Qx r
 |(_,.iter _)::r=>List (PV×PV)×Qx r
def NH.l0(T:NH):List Sh:=T.ck.map Prod.snd
abbrev NH.ty(T:NH):Type:=V7 T.l0 (Qx T.Fx)
mutual
def V.same:V→V→Bool
 |.op i o,.op j p=>Nat.beq i j&&Nat.beq o p
 |.oe i a o,.oe j b p=>Nat.beq i j&&Nat.beq a b&&Nat.beq o p
 |.os i,.os j=>Nat.beq i j
 |.om i,.om j=>Nat.beq i j
 |.yl i,.yl j=>Nat.beq i j
 |.it i,.it j=>Nat.beq i j
 |.jB,.jB=>true
 |.pv .vO,.pv .vO=>true
 |.pv .AO,.pv .AO=>true
 |.pv (.int q x),.pv (.int q' y)=>decide (q=q')&&decide (x=y)
 |.fn f cs,.fn g ds=>Nat.beq f g&&NL cs ds
 |_,_=>false
def NL:List V→List V→Bool
 |[],[]=>true
 |a::as,b::bs=>a.same b&&NL as bs
 |_,_=>false
end
section
variable {R:Type}
def l5{T:Type}:(l0:List Sh)→List V→T→(V7 l0 T→Option R)→Option R
 |[],[],t,k=>k t
 |.int q::l0,.pv (.int q' n)::vs,t,k=>if q'=q then l5 l0 vs t (fun r=>k (n,r))else none
 |.raw::l0,.pv p::vs,t,k=>l5 l0 vs t (fun r=>k (p,r))
 |.bool::l0,.pv (.bool b)::vs,t,k=>l5 l0 vs t (fun r=>k (b,r))
 |.str::l0,.pv (.str s)::vs,t,k=>l5 l0 vs t (fun r=>k (s,r))
 |.rs sz::l0,.pv (.rs M4 es)::vs,t,k=>if M4=sz then l5 l0 vs t (fun r=>k (es,r))else none
 |.rp n::l0,.pv (.rp cs)::vs,t,k=>if cs.length=n then l5 l0 vs t (fun r=>k (.agg cs,r))else none
 |.fs s::l0,.pv p::vs,t,k=>(rdL s p).bind fun ls=>l5 l0 vs t (fun r=>k (ls,r))
 |.row id off::l0,.Cx ye i AW::vs,t,k=>if ye=id∧AW=off then l5 l0 vs t (fun r=>k ((i:Int),r))else none
 |.own v::l0,u::vs,t,k=>if v.same u then l5 l0 vs t k else none
 |_,_,_,_=>none
def zZ(m:Mem):(bs:List (Nat×GB))→(Qx bs→Option R)→Option R
 |[],k=>k ()
 |(id,.box cs)::r,k=>match m id with
  |some (.box vs)=>zZ m r fun t=>l5 (T:=Qx r) cs vs t k
  |_=>none
 |(id,.arr sz et)::r,k=>match m id with
  |some (.arr M4 M5 es)=>if M4=sz∧M5=et then zZ m r fun t=>k (es,t)else none
  |_=>none
 |(id,.vF sz et)::r,k=>match m id with
  |some (.vF M4 M5 es)=>if M4=sz∧M5=et then zZ m r fun t=>k (es,t)else none
  |_=>none
 |(id,.map kt)::r,k=>match m id with
  |some (.map Ct es)=>if Ct=kt then zZ m r fun t=>k (es,t)else none
  |_=>none
 |(id,.nest sz et)::r,k=>match m id with
  |some (.nest M4 M5 es)=>if M4=sz∧M5=et then zZ m r fun t=>k (es,t)else none
  |_=>none
 |(id,.fS kt e)::r,k=>match m id with
  |some (.fS Ct e' es)=>if Ct=kt∧e'=e then zZ m r fun t=>k (es,t)else none
  |_=>none
 |(id,.loop)::r,k=>match m id with
  |some (.loop .ready)=>zZ m r k
  |_=>none
 |(id,.busy)::r,k=>match m id with
  |some (.loop .busy)=>zZ m r k
  |_=>none
 |(id,.iter t)::r,k=>match m id with
  |some (.iter t' es none)=>if t'=t then zZ m r fun u=>k (es,u)else none
  |_=>none
def Sh.within(M:List Nat):Sh→Bool
 |.own v=>v.within M
 |.row id _=>M.elem id
 |_=>true
def GB.within(M:List Nat):GB→Bool
 |.box cs=>cs.all (·.within M)
 |_=>true
def NH.ok(T:NH):Bool:=T.ck.all (fun x=>x.2.within (T.Fx.map (·.1)))&&T.Fx.all (fun x=>x.2.within (T.Fx.map (·.1)))
def KC:List Sh→List V→Bool
 |[],[]=>true
 |.raw::l0,.pv _::vs=>KC l0 vs
 |.int q::l0,.pv (.int q' _)::vs=>decide (q'=q)&&KC l0 vs
 |.bool::l0,.pv (.bool _)::vs=>KC l0 vs
 |.str::l0,.pv (.str _)::vs=>KC l0 vs
 |.rs sz::l0,.pv (.rs M4 _)::vs=>Nat.beq M4 sz&&KC l0 vs
 |.rp n::l0,.pv (.rp cs)::vs=>Nat.beq cs.length n&&KC l0 vs
 |.fs s::l0,.pv p::vs=>(rdL s p).isSome&&KC l0 vs
 |.row id off::l0,.Cx ye _ AW::vs=>Nat.beq ye id&&Nat.beq AW off&&KC l0 vs
 |.own v::l0,u::vs=>v.same u&&KC l0 vs
 |_,_=>false
def Nb(m:Mem):List (Nat×GB)→Bool
 |[]=>true
 |(id,.box cs)::r=>(match m id with|some (.box vs)=>KC cs vs|_=>false)&&Nb m r
 |(id,.arr sz _)::r=>(match m id with|some (.arr M4 _ _)=>Nat.beq M4 sz|_=>false)&&Nb m r
 |(id,.vF sz _)::r=>(match m id with|some (.vF M4 _ _)=>Nat.beq M4 sz|_=>false)&&Nb m r
 |(id,.map _)::r=>(match m id with|some (.map _ _)=>true|_=>false)&&Nb m r
 |(id,.nest sz _)::r=>(match m id with|some (.nest M4 _ _)=>Nat.beq M4 sz|_=>false)&&Nb m r
 |(id,.fS _ _)::r=>(match m id with|some (.fS _ _ _)=>true|_=>false)&&Nb m r
 |(id,.loop)::r=>(match m id with|some (.loop .ready)=>true|_=>false)&&Nb m r
 |(id,.busy)::r=>(match m id with|some (.loop .busy)=>true|_=>false)&&Nb m r
 |(id,.iter _)::r=>(match m id with|some (.iter _ _ none)=>true|_=>false)&&Nb m r
def fits(f:Fr)(m:Mem)(T:NH):Bool:=Nb m T.Fx&&KC T.l0 (T.ck.map fun(x:Nat×Sh)=>f x.1)
def enc(T:NH)(f:Fr)(m:Mem)(k:T.ty→Option R):Option R:=if T.ok then zZ m T.Fx fun t=>l5 (T:=Qx T.Fx) T.l0 (T.ck.map fun(x:Nat×Sh)=>f x.1) t k else none
end
def yf{T:Type}:(l0:List Sh)→V7 l0 T→List V×T
 |[],t=>([],t)
 |.int q::l0,x=>let r:=yf l0 x.2;(.pv (.int q x.1)::r.1,r.2)
 |.raw::l0,x=>let r:=yf l0 x.2;(.pv x.1::r.1,r.2)
 |.bool::l0,x=>let r:=yf l0 x.2;(.pv (.bool x.1)::r.1,r.2)
 |.str::l0,x=>let r:=yf l0 x.2;(.pv (.str x.1)::r.1,r.2)
 |.rs sz::l0,x=>let r:=yf l0 x.2;(.pv (.rs sz x.1)::r.1,r.2)
 |.rp n::l0,x=>let r:=yf l0 x.2;(.pv (.rp (aQ n x.1))::r.1,r.2)
 |.fs s::l0,x=>let r:=yf l0 x.2;(.pv (Pb s ((List.range s.n).map fun j=>x.1.getD j .bad)).1::r.1,r.2)
 |.row id off::l0,x=>let r:=yf l0 x.2;(.Cx id x.1.toNat off::r.1,r.2)
 |.own v::l0,x=>let r:=yf (T:=T) l0 x;(v::r.1,r.2)
def iU:(bs:List (Nat×GB))→Qx bs→List (Nat×Option bW)
 |[],_=>[]
 |(id,.box cs)::r,x=>let y:=yf (T:=Qx r) cs x;(id,some (.box y.1))::iU r y.2
 |(id,.arr sz et)::r,x=>(id,some (.arr sz et x.1))::iU r x.2
 |(id,.vF sz et)::r,x=>(id,some (.vF sz et x.1))::iU r x.2
 |(id,.map kt)::r,x=>(id,some (.map kt x.1))::iU r x.2
 |(id,.nest sz et)::r,x=>(id,some (.nest sz et x.1))::iU r x.2
 |(id,.fS kt e)::r,x=>(id,some (.fS kt e x.1))::iU r x.2
 |(id,.loop)::r,x=>(id,some (.loop .ready))::iU (r:List (Nat×GB)) x
 |(id,.busy)::r,x=>(id,some (.loop .busy))::iU (r:List (Nat×GB)) x
 |(id,.iter t)::r,x=>(id,some (.iter t x.1 none))::iU r x.2
def vT:List (Nat×Sh)→List V→List (Nat×V)
 |(t,_)::r,v::vs=>(t,v)::vT r vs
 |_,_=>[]
def TQ(T:NH)(x:T.ty):Fr:=TK (vT T.ck (yf (T:=Qx T.Fx) T.l0 x).1)
def KD(T:NH)(x:T.ty):Mem:=Kq (iU T.Fx (yf (T:=Qx T.Fx) T.l0 x).2)
def I7{A:Type}:List (Nat×Nat)→Fr→Mem→(Fr→Mem→A)→A
 |[],f,m,k=>k f m
 |(t,sz)::r,f,m,k=>match f t with
  |.os id=>match m id with
   |some (.arr s et es)=>I7 r (ig f t (.pv (.rs s es))) (aD m id (.vF s et es)) k
   |some (.vF s _ es)=>I7 r (ig f t (.pv (.rs s es))) m k
   |_=>I7 r f m k
  |.jB=>I7 r (ig f t (.pv (.rs sz []))) m k
  |_=>I7 r f m k
def NM{A:Type}:List (Nat×Nat×Nat)→Mem→(Mem→A)→A
 |[],m,k=>k m
 |(id,j,sz)::r,m,k=>match m id with
  |some (.box cs)=>match cs[j]? with
   |some .jB=>NM r (aD m id (.box (cs.set j (.pv (.rs sz []))))) k
   |_=>NM r m k
  |_=>NM r m k
def I8{A:Type}(P:Program):List (Nat×Nat×Nat×TypeId)→Mem→(Mem→A)→A
 |[],m,k=>k m
 |(id,j,nid,et)::r,m,k=>match m id with
  |some (.box cs)=>match cs[j]? with
   |some .jB=>match m nid with
    |none=>if 0<bj P et then I8 P r (aD (aD m nid (.arr (bj P et) et [])) id (.box (cs.set j (.os nid)))) k else I8 P r m k
    |some _=>I8 P r m k
   |_=>I8 P r m k
  |_=>I8 P r m k
def Q4{A:Type}:List Nat→Mem→(Mem→A)→A
 |[],m,k=>k m
 |id::r,m,k=>match m id with
  |some (.arr s et es)=>Q4 r (aD m id (.nest s et es)) k
  |_=>Q4 r m k
def I9{A:Type}:List (Nat×Nat)→Fr→Mem→(Fr→Mem→A)→A
 |[],f,m,k=>k f m
 |(id,j)::r,f,m,k=>match m id with
  |some (.box cs)=>match cs[j]? with
   |some (.gw a 0 len)=>match m a with
    |some (.arr s et es)=>if Nat.beq a id then I9 r f m k else I9 r (fC a f) (aD (aD (bF (bR a m) a) a (.arr s et (es.take len))) id (.box ((cs.map (yr a)).set j (.os a)))) k
    |_=>I9 r f m k
   |_=>I9 r f m k
  |_=>I9 r f m k
def NN{A:Type}(P:Program)(T:NH)(f:Fr)(m:Mem)(k:Fr→Mem→A):A:=I9 T.ct f m fun f m=>I8 P T.bo m fun m=>NM T.bz m fun m=>Q4 T.nz m fun m=>I7 T.fz f m k
variable{R:Type}
def Ex.Q5(k1:Fr→Mem→Option R)(k:Ex→Fr→Mem→Option R):Ex→Fr→Mem→Option R
 |.normal,f,m=>k1 f m
 |e,f,m=>k e f m
def Ex.abP(id:Nat)(k:Ex→Fr→Mem→Option R):Ex→Fr→Mem→Option R
 |.exit j,f,m=>if j=id then k .normal f m else k (.exit j) f m
 |e,f,m=>k e f m
def Ex.jmp:Ex→Option Jmp
 |.normal=>none
 |.exit id=>some (.exit id)
 |.ret=>some .ret
def Jmp.ex:Jmp→Ex
 |.ret=>.ret
 |.exit id=>.exit id
def V8(n:Nat)(g f:Fr):Fr:=fun t=>bif Nat.blt t n then g t else f (t-n)
def KE:List Nat→List V→Fr→Fr
 |p::ps,v::vs,f=>KE ps vs (ig f p v)
 |_,_,f=>f
def roundOf(as b:Fr→Mem→(Ex→Fr→Mem→Option R)→Option R)(lid n:Nat)(ps:List Nat)(nt:Nat)(args:List V)(F:Fr)(m:Mem)(k:V→Fr→Mem→Option R):Option R:=
 match m lid with
 |some (.loop .ready)=>if args.length=ps.length then
  as (V8 n (KE ps args (CA nt F)) F) m fun e f m=>match e,m lid with
   |.normal,some (.loop .ready)=>b f (aD m lid (.loop .busy)) fun e f m=>match m lid with
    |some (.loop .busy)=>match e.jmp with
     |none=>k (.pv (.bool true)) (CA n f) (aD m lid (.loop .ready))
     |some j=>k (.pv (.bool false)) (CA n f) (aD m lid (.loop (.done j)))
    |_=>none
   |_,_=>none
  else none
 |_=>none
def aiL:V→Option (FuncId×List V)
 |.fn g caps=>bif Nat.blt g Kr then some (g,caps)else none
 |.pv (.fn g caps)=>bif Nat.blt g Kr then some (g,caps.map .pv)else none
 |_=>none
def amq(E:Env)(o:Oper):Bool:=match o.op with
 |.call c=>match c.callee with
  |.value (.func g)=>(E.ctx g).isNone&&(E.own g).isNone
  |_=>false
 |_=>false
def amr(E:Env)(o:Oper):Bool:=match o.op with
 |.call c=>match c.callee with
  |.value (.func g)=>(E.ctx g).isNone&&(E.own g).isSome
  |_=>false
 |_=>false
def agn(E:Env)(ops:Array Oper):Option Nat:=ops.toList.findIdx? (amq E)
def abQ(ops:Array Oper)(p:Nat):Bool:=match ops[p]? with
 |none=>false
 |some o=>o.guard.isNone&&o.after.toList.all (fun e=> !(Region.binds .any e)||Nat.blt e.on p)&&((List.range ops.size).zip ops.toList).all fun x=>bif Nat.blt x.1 p then reach ops 8 o x.1 else Nat.beq x.1 p||reach ops 8 x.2 p
noncomputable def gi:(E:Env)→{R:Type}→Code→Fr→Mem→(Ex→Fr→Mem→Option R)→Option R
 |E,_,.skip,f,m,k=>k .normal f m
 |E,R,.region _ ops draw,f,m,k=>
  if draw then
   match agn E ops with
   |some p=>if abQ ops p&&sw ops [] (((List.range ops.size).zip ops.toList).take p)&&sw ops [] (((List.range ops.size).zip ops.toList).drop (p+1))then
     cw E ops 2 (ops.size+1) R [] (((List.range ops.size).zip ops.toList).take p) f m [] fun f m=>
     cw E ops 0 3 R [] ((((List.range ops.size).zip ops.toList).drop p).take 1) f m [] fun f m=>
     cw E ops 2 (ops.size+1) R [] (((List.range ops.size).zip ops.toList).drop (p+1)) f m [] fun f m=>k .normal f m
    else none
   |none=>
   (if sw ops [] ((List.range ops.size).zip ops.toList)then
    (if ops.toList.all (fun o=>fU o&& !amr E o)then cw E ops 1 (ops.size+1) R [] ((List.range ops.size).zip ops.toList) f m [] fun f m=>k .normal f m
    else cw E ops 2 (ops.size+1) R [] ((List.range ops.size).zip ops.toList) f m [] fun f m=>k .normal f m)
   else none)
  else cw E ops 0 (ops.size+ops.size+1) R [] ((List.range ops.size).zip ops.toList) f m [] fun f m=>k .normal f m
 |E,R,.seq a b,f,m,k=>gi E a f m (Ex.Q5 (fun f m=>gi E b f m k) k)
 |E,R,.cond c a b,f,m,k=>match c,bQ E f c with
  |.tmp x,.pv (.bool t)=>if t then gi E a (ig f x (.pv (.bool true))) m k else gi E b (ig f x (.pv (.bool false))) m k
  |_,_=>none
 |E,R,.block id b,f,m,k=>gi E b f m (Ex.abP id k)
 |E,R,.loop b,f,m,k=>match(E.hint E.fid (Ek b)).find? (fun T=>NN E.P T f m fun f m=>fits f m T)with
  |some T=>NN E.P T f m fun f m=>enc T f m (E.lp.run fun s rec=>gi E b (TQ T s) (KD T s) (Ex.Q5 (fun f m=>NN E.P T f m fun f m=>enc T f m rec) k))
  |none=>Q3 (fun f m rec=>gi E b f m (Ex.Q5 rec k)) E.u f m
 |E,R,.exit id,f,m,k=>k (.exit id) f m
 |E,R,.ret,f,m,k=>k .ret f m
 |E,R,.label _,f,m,k=>k .normal f m
 |E,R,.scope b,f,m,k=>gi E b f m k
 |E,R,.rangeFunc g ps as b,f,m,k=>if E.rdb then none else match ps.toList with
  |p0::_=>fresh true (cR E (some p0)) (.loop .ready) f m fun f m _=>match aiL (bQ E f g)with
   |some (gid,caps)=>E.rng R gid (cR E (some p0)*4096+gid) (fun _ nt site id args F m k=>bif Nat.beq id (cR E (some p0))then
     roundOf (gi {E with fid:=site*4096+E.fid%4096,yl:=HS,rdb:=true} as) (gi {E with fid:=site*4096+E.fid%4096,yl:=HS,rdb:=true} b) (cR E (some p0)) E.fn.ntmps ps.toList nt args F m k
     else none)
    (.yl (cR E (some p0))::caps) f m fun _ f m=>match m (cR E (some p0))with
     |some (.loop .ready)=>k .normal (fC (cR E (some p0)) f) (bF (bR (cR E (some p0)) m) (cR E (some p0)))
     |some (.loop (.done j))=>k j.ex (fC (cR E (some p0)) f) (bF (bR (cR E (some p0)) m) (cR E (some p0)))
     |_=>none
   |_=>none
  |[]=>none
 |_,_,_,_,_,_=>none
def GK(E:Env){R:Type}(f:Fr)(m:Mem):List ResultVar→(List V→Option R)→Option R
 |[],k=>k []
 |.tmp t::rs,k=>GK E f m rs fun vs=>k (bQ E f (.tmp t)::vs)
 |.cell a t::rs,k=>uH E false t (bQ E f (.tmp a)) m fun v _=>GK E f m rs fun vs=>k (v::vs)
def abR(E:Env)(rs:List ResultVar)(f:Fr)(m:Mem):Option PV:=GK E f m rs fun vs=>match vs with
  |[v]=>nu m fl v
  |vs=>(uT (nu m fl) vs).bind fun ps=>some (.aG ps)
section
variable {R:Type} (E:Env)
def Pj(t:TypeId)(p:PV)(k:PV→Option R):Option R:=
 match E.P.underlying t with
 |some (.int _)=>jD E t p k
 |some .bool=>jD E t p k
 |some .string=>jD E t p k
 |some (.slice _)=>jD E t p k
 |some (.map _ _)=>jD E t p k
 |_=>k p
def uU:List TypeId→List PV→(List PV→Option R)→Option R
 |t::ts,p::ps,k=>Pj E t p fun q=>uU ts ps fun qs=>k (q::qs)
 |_,ps,k=>k ps
def J7(n:Nat)(p:PV)(a:Option R)(b:PV→Option R):Option R:=
 match p with
 |.vO=>a
 |.rp cs=>if n≤cs.length then b (.agg cs)else none
 |_=>none
def abS(t:TypeId)(p:PV)(k:PV→Option R):Option R:=
 match E.P.underlying t with
 |some (.struct _)=>(asAgg (bj E.P t) p).bind fun _=>match Kz E.P 8 t with
  |some ts=>uU E ts (aQ (bj E.P t) p) fun cs=>k (.agg cs)
  |none=>none
 |some (.array _ _)=>(asAgg (bj E.P t) p).bind fun _=>match Kz E.P 8 t with
  |some ts=>uU E ts (aQ (bj E.P t) p) fun cs=>k (.agg cs)
  |none=>none
 |some (.pointer e)=>J7 (bj E.P e) p (k .vO) fun q=>match Kz E.P 8 e with
  |some ts=>uU E ts (aQ (bj E.P e) q) fun cs=>k (.rp cs)
  |none=>none
 |_=>Pj E t p k
def FA:List TypeId→List PV→(List PV→Option R)→Option R
 |t::ts,p::ps,k=>abS E t p fun q=>FA ts ps fun qs=>k (q::qs)
 |_,ps,k=>k ps
end
def KF(args:List V):Fr:=fun t=>args.getD t .top
noncomputable def J8(E:Env)(args:List V)(f:Fr)(m:Mem)(k:V→Fr→Mem→Option R):Option R:=
 match E.fn.body with
 |some c=>if args.length≤E.fn.ntmps then gi E c (BX E.fn.ntmps args f) m (fun e f m=>match e with
  |.exit _=>none
  |_=>GK E f m E.fn.results.toList fun vs=>match vs with
   |[v]=>k v (CA E.fn.ntmps f) m
   |vs=>k (.aG vs) (CA E.fn.ntmps f) m)else none
 |none=>none
def aiM(E:Env)(f:Fr)(m:Mem):Option PV:=
 match E.fn.resultTypes.toList with
 |[t]=>match E.P.underlying t with
  |some (.slice e)=>GK E f m E.fn.results.toList fun vs=>match vs with
   |[.os id]=>match m id with
    |some (.arr sz et es)=>if sz=bj E.P e∧et=e then some (.rs sz es)else none
    |_=>none
   |[.gw id 0 len]=>match m id with
    |some (.arr sz et es)=>if sz=bj E.P e∧et=e then some (.rs sz (es.take len))else none
    |_=>none
   |_=>none
  |_=>none
 |_=>none
noncomputable def Pk(E:Env)(args:List PV):Option PV:=
 match E.fn.body with
 |some c=>if args.length≤E.fn.ntmps then FA E E.fn.params.toList args fun vs=>gi E c (KF (vs.map .pv)) (fun _=>none) (fun e f m=>match e with
  |.exit _=>none
  |_=>aiM E f m)else none
 |none=>none
noncomputable def eP(E:Env)(args:List PV):Option PV:=
 match E.fn.body with
 |some c=>if args.length≤E.fn.ntmps then FA E E.fn.params.toList args fun vs=>gi E c (KF (vs.map .pv)) (fun _=>none) (fun e f m=>match e with
  |.normal=>abR E E.fn.results.toList f m
  |.ret=>abR E E.fn.results.toList f m
  |.exit _=>none)else none
 |none=>none
end Go.Ab
