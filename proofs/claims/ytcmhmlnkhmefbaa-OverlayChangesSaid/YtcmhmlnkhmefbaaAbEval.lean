import Derived.Test.YtcmhmlnkhmefbaaAbDefs
import Derived.Deep.Quiet
set_option linter.unusedVariables false
namespace Go.Ab
inductive FS where
 |raw
 |fn (g:FuncId) (caps:List FS)
 |ptr (cells:List FS)
mutual
def PI:FS→PV→Option (List PV)
 |.raw,p=>some [p]
 |.fn g cs,.fn g' qs=>if g'=g then Dm cs qs else none
 |.ptr cs,.rp qs=>Dm cs qs
 |_,_=>none
def Dm:List FS→List PV→Option (List PV)
 |[],[]=>some []
 |s::ss,p::ps=>(PI s p).bind fun a=>(Dm ss ps).bind fun b=>some (a++b)
 |_,_=>none
end
mutual
def B9:FS→List PV→PV×List PV
 |.raw,[]=>(.bad,[])
 |.raw,p::r=>(p,r)
 |.fn g cs,l=>(.fn g (wm cs l).1,(wm cs l).2)
 |.ptr cs,l=>(.rp (wm cs l).1,(wm cs l).2)
def wm:List FS→List PV→List PV×List PV
 |[],l=>([],l)
 |s::ss,l=>((B9 s l).1::(wm ss (B9 s l).2).1,(wm ss (B9 s l).2).2)
end
mutual
def FS.n:FS→Nat
 |.raw=>1
 |.fn _ cs=>Vi cs
 |.ptr cs=>Vi cs
def Vi:List FS→Nat
 |[]=>0
 |s::ss=>s.n+Vi ss
end
inductive Sh where
 |raw
 |int (q:IntKind)
 |bool
 |str
 |rs (sz:Nat)
 |rp (n:Nat)
 |fs (s:FS)
 |row (id off:Nat)
 |own (v:V)
inductive Me where
 |box (cs:List Sh)
 |arr (sz:Nat) (et:TypeId)
 |l6 (sz:Nat) (et:TypeId)
 |map (kt:TypeId)
 |nest (sz:Nat) (et:TypeId)
 |eG (kt e:TypeId)
 |loop
 |busy
 |iter (t:TypeId)
structure iL where
 aG:List (Nat×Sh)
 dz:List (Nat×Me)
 fz:List (Nat×Nat):=[]
 bz:List (Nat×Nat×Nat):=[]
 bo:List (Nat×Nat×Nat×TypeId):=[]
 nz:List Nat:=[]
 ct:List (Nat×Nat):=[]
structure cp where
 run:{S R:Type}→(S→(S→Option R)→Option R)→S→Option R
 room:Nat→Bool
 tS:∀n,room n=true→(n:Int)≤IntKind.i64.max
def cd{S R:Type}(body:S→(S→Option R)→Option R):Nat→S→Option R
 |0,_=>none
 |n+1,s=>body s (cd body n)
abbrev YL:=(R:Type)→Nat→Nat→Nat→List V→Fr→Mem→(V→Fr→Mem→Option R)→Option R
def vd:YL:=fun _ _ _ _ _ _ _ _=>none
structure Env where
 P:Program
 ctx:FuncId→Option (List PV→Option PV)
 ax:Nat→Option (List PV)
 fid:FuncId
 fn:Func
 lp:cp
 hint:Nat→Nat→List iL
 u:Nat
 own:FuncId→Option (List PV→Option PV)
 inl:(R:Type)→FuncId→Nat→List V→Fr→Mem→(V→Fr→Mem→Option R)→Option R
 SL:(R:Type)→FuncId→Nat→YL→List V→Fr→Mem→(V→Fr→Mem→Option R)→Option R
 yl:YL
 SM:Bool:=false
 UC:FuncId→Option FS:=fun _=>none
 u7:Nat→Bool:=fun _=>false
section
variable {R:Type} (E:Env)
def dF(kt:TypeId)(p:PV)(a:Option R)(b:List PV→List PV→Option R):Option R:=
 match p with
 |.qm=>a
 |.rm qp ks vs=>if qp=kt then b ks vs else none
 |_=>none
def fg(t:TypeId)(p:PV)(k:PV→Option R):Option R:=
 match E.P.underlying t with
 |some (.int q)=>(asInt q p).bind fun n=>k (.int q n)
 |some .bool=>(asBool p).bind fun b=>k (.bool b)
 |some .string=>(dh p).bind fun s=>k (.str s)
 |some (.slice e)=>(ae (aH E.P e) p).bind fun es=>k (.rs (aH E.P e) es)
 |some (.struct _)=>(asAgg (aH E.P t) p).bind fun _=>k (.agg (aA (aH E.P t) p))
 |some (.array _ _)=>(asAgg (aH E.P t) p).bind fun _=>k (.agg (aA (aH E.P t) p))
 |some (.pointer _)=>match p with
  |.lS=>k p
  |.rp _=>k p
  |_=>none
 |some (.map kt _)=>dF kt p (k .qm) fun ks vs=>k (.rm kt ks vs)
 |some (.func _ _ _)=>match p with
  |.vb=>k .vb
  |.fn g cs=>k (.fn g cs)
  |_=>none
 |some (.interface _)=>(IH p).bind fun b=>k (.Pv b)
 |_=>none
def tT(t:TypeId)(v:V)(k:V→Option R):Option R:=
 match v with
 |.pv p=>fg E t p fun p=>k (.pv p)
 |.top=>none
 |v=>if(E.P.underlying t).isSome then k v else none
def wo:List TypeId→List PV→(List V→Option R)→Option R
 |[],[],k=>k []
 |t::ts,p::ps,k=>fg E t p fun q=>wo ts ps fun vs=>k (.pv q::vs)
 |_,_,_=>none
def wq(ts:List TypeId)(r:PV)(k:V→Option R):Option R:=
 match ts with
 |[]=>(cB 0 r).bind fun _=>k (.bA [])
 |[t]=>fg E t r fun q=>k (.pv q)
 |ts=>(cB ts.length r).bind fun vs=>wo E ts ((List.range ts.length).map fun j=>vs.getD j .bad) fun us=>k (.bA us)
def ve(fid:FuncId)(ts:List TypeId)(r:PV)(k:V→Option R):Option R:=
 match E.UC fid with
 |some s=>(PI s r).bind fun ls=>k (.pv (B9 s ((List.range s.n).map fun j=>ls.getD j .bad)).1)
 |none=>wq E ts r k
def bh(f:Fr):Operand→V
 |.tmp t=>bif Nat.blt t E.fn.ntmps then f t else .top
 |.const c=>AL c
 |.global g=>match E.ax g with|some cs=>.pv (.rp cs)|none=>.top
 |.func f=>bif Nat.blt f xq then .fn f []else .top
def fresh(draw:Bool)(site:Nat)(b:bn)(f:Fr)(m:Mem)(k:Fr→Mem→aY→Option R):Option R:=
 match m site with
 |none=>k f (ai m site b) [(true,site)]
 |some _=>if draw||b.names site then none else k (eB site f) (ai (bk site m) site b) [(true,site)]
def mo:V→Option (List V)
 |.pv (.agg cs)=>some (cs.map .pv)
 |.agg cs=>some cs
 |_=>none
def cO:Mem:=fun _=>none
def jE(op:BinOp)(t:TypeId)(a b:V)(k:PV→Option R):Option R:=
 match a,b with
 |.pv (.int q x),.pv (.int q' y)=>match op with
  |.shl=>if y<0 then none else k (.int q (q.wrap (x*2^(min y.toNat q.bits))))
  |.shr=>if y<0 then none else k (.int q (x.fdiv (2^(min y.toNat q.bits))))
  |op=>if q=q' then match op with
   |.add=>k (.int q (q.wrap (x+y)))
   |.sub=>k (.int q (q.wrap (x-y)))
   |.mul=>k (.int q (q.wrap (x*y)))
   |.quo=>if y=0 then none else k (.int q (q.wrap (x.tdiv y)))
   |.rem=>if y=0 then none else k (.int q (x.tmod y))
   |.and=>k (.int q (q.wrap (BitVec.ofInt q.bits x&&&BitVec.ofInt q.bits y).toNat))
   |.or=>k (.int q (q.wrap (BitVec.ofInt q.bits x|||BitVec.ofInt q.bits y).toNat))
   |.xor=>k (.int q (q.wrap (BitVec.ofInt q.bits x^^^BitVec.ofInt q.bits y).toNat))
   |.andNot=>k (.int q (q.wrap (BitVec.ofInt q.bits x&&& ~~~(BitVec.ofInt q.bits y)).toNat))
   |.eql=>k (.bool (x==y))
   |.neq=>k (.bool (x !=y))
   |.lss=>k (.bool (decide (x<y)))
   |.leq=>k (.bool (decide (x≤y)))
   |.gtr=>k (.bool (decide (x>y)))
   |.geq=>k (.bool (decide (x≥y)))
   |_=>none
   else none
 |.pv (.str x),.pv (.str y)=>match op with
  |.add=>if E.lp.room (x.length+y.length)=true then k (.str (x++y))else none
  |.eql=>k (.bool (x==y))
  |.neq=>k (.bool (!(x==y)))
  |.lss=>k (.bool (Op.bytesLess x y))
  |.leq=>k (.bool (Op.bytesLess x y||x==y))
  |.gtr=>k (.bool (!(Op.bytesLess x y||x==y)))
  |.geq=>k (.bool (!(Op.bytesLess x y)))
  |_=>none
 |.pv (.bool x),.pv (.bool y)=>match op,E.P.underlying t with
  |.eql,some .bool=>k (.bool (x==y))
  |.neq,some .bool=>k (.bool (!(x==y)))
  |_,_=>none
 |.pv .lS,.pv .lS=>match op,E.P.underlying t with
  |.eql,some (.pointer _)=>k (.bool true)
  |.neq,some (.pointer _)=>k (.bool false)
  |_,_=>none
 |.fn _ _,.pv .vb|.pv (.fn _ _),.pv .vb=>match op,E.P.underlying t with
  |.eql,some (.func _ _ _)=>k (.bool false)
  |.neq,some (.func _ _ _)=>k (.bool true)
  |_,_=>none
 |.pv (.rp _),.pv .lS|.op _ _,.pv .lS|.oe _ _ _,.pv .lS=>match op,E.P.underlying t with
  |.eql,some (.pointer _)=>k (.bool false)
  |.neq,some (.pointer _)=>k (.bool true)
  |_,_=>none
 |a,b=>if aq E.P t then match nB E.P t,mo a,mo b with
  |some ks,some as,some bs=>match lT (iB cO 1) as,lT (iB cO 1) bs with
   |some as,some bs=>if iK ks as=true∧iK ks bs=true then match op with
    |.eql=>k (.bool (cA as bs))
    |.neq=>k (.bool (!(cA as bs)))
    |_=>none
    else none
   |_,_=>none
  |_,_,_=>none
  else none
def xW:Operand→Bool
 |.const .nilIface=>true
 |_=>false
def Mf(op:BinOp)(t:TypeId)(a:V)(k:PV→Option R):Option R:=
 match a with
 |.pv (.Pv b)=>match op,E.P.underlying t with
  |.eql,some (.interface _)=>k (.bool (!b))
  |.neq,some (.interface _)=>k (.bool b)
  |_,_=>none
 |_=>none
def Dn(op:BinOp)(t:TypeId)(y:Operand)(a b:V)(k:PV→Option R):Option R:=bif xW y then Mf E op t a k else jE E op t a b k
noncomputable def agree(a b:Option R):Option R:= @ite _ (a=b) (Classical.propDecidable _) a none
noncomputable def FB(op:BinOp)(t:TypeId)(es:List PV)(k:Bool→Option R):Option R:=
 match op,E.P.underlying t with
 |.eql,some (.slice _)=>if es.isEmpty=true then agree (k true) (k false)else k false
 |.neq,some (.slice _)=>if es.isEmpty=true then agree (k false) (k true)else k true
 |_,_=>none
def ZU(op:UnOp)(a:V)(k:PV→Option R):Option R:=
 match op,a with
 |.not,.pv (.bool b)=>k (.bool !b)
 |.neg,.pv (.int q n)=>k (.int q (q.wrap (0-n)))
 |.xor,.pv (.int q n)=>k (.int q (q.wrap (BitVec.ofInt q.bits (if q.signed then-1 else q.max)^^^BitVec.ofInt q.bits n).toNat))
 |_,_=>none
def xX(s d:TypeId)(a:V)(k:PV→Option R):Option R:=
 match E.P.underlying s,E.P.underlying d,a with
 |some (.int q),some (.int q'),.pv (.int q'' n)=>if q''=q then(if q'=q then k (.int q n)else k (.int q' (q'.wrap n)))else none
 |some .string,some .string,.pv (.str s)=>k (.str s)
 |_,_,_=>none
def nQ(s:Nat)(t:TypeId)(e:PV)(off:Nat)(k:V→Option R):Option R:=
 if aq E.P t then(if off+aH E.P t≤s then k (.pv (.agg (((aA s e).drop off).take (aH E.P t))))else none)
 else match(aA s e)[off]? with
  |some p=>fg E t p fun p=>k (.pv p)
  |none=>none
def nj:V→Option PV
 |.pv p=>some p
 |_=>none
def sZ(t:TypeId)(s i off:Nat):Bool:=match E.P.underlying t with
 |some (.array _ e)=>Nat.beq (aH E.P e) s&&aq E.P e&&Nat.beq i 0&&Nat.beq off 0
 |_=>false
def lO(own:Bool)(t:TypeId)(a:V)(m:Mem)(k:V→aY→Option R):Option R:=
 match a with
 |.pv (.rp cs)=>
  if aq E.P t then(if aH E.P t≤cs.length then k (.pv (.agg (cs.take (aH E.P t)))) []else none)
  else(cs.head?).bind fun p=>fg E t p fun p=>k (.pv p) []
 |.op id off=>match m id with
  |some (.box cs)=>
   if aq E.P t then(if off+aH E.P t≤cs.length then k (.agg ((cs.drop off).take (aH E.P t))) [(false,id)]else none)
   else match lT nj cs with
    |some ps=>(ps[off]?).bind fun p=>fg E t p fun p=>k (.pv p) [(false,id)]
    |none=>match cs[off]? with
     |some v=>tT E t v fun v=>k v [(false,id)]
     |none=>none
  |_=>none
 |.oe id i off=>match m id with
  |some (.arr s _ es)=>bif sZ E t s i off then(if es.length*s=aH E.P t then k (.pv (.agg (tQ s es))) [(false,id)]else none)else(es[i]?).bind fun e=>nQ E s t e off fun v=>k v [(false,id)]
  |some (.l6 s _ es)=>(es[i]?).bind fun e=>nQ E s t e off fun v=>k v [(false,id)]
  |some (.nest _ _ es)=>if aq E.P t then none else(es[i]?).bind fun e=>
   if own then(match E.P.underlying t with
    |some (.slice et)=>(bj (aH E.P et) (cell e off)).bind fun _=>k (.qD id i off) [(false,id)]
    |_=>none)
   else fg E t (cell e off) fun p=>k (.pv p) [(false,id)]
  |_=>none
 |.tP id i off s j off2=>match m id with
  |some (.nest _ _ es)=>(es[i]?).bind fun e=>(bj s (cell e off)).bind fun rs=>(rs[j]?).bind fun q=>nQ E s t q off2 fun v=>k v [(false,id)]
  |_=>none
 |_=>none
def over{T:Type}:List T→List T→List T
 |[],cs=>cs
 |x::new,[]=>x::over new []
 |x::new,_::cs=>x::over new cs
def bu{T:Type}:List T→Nat→List T→List T
 |cs,0,new=>over new cs
 |[],_+1,new=>new
 |c::cs,off+1,new=>c::bu cs off new
theorem Ca{T:Type}:∀(new cs:List T),over new cs=new++cs.drop new.length
 |[],cs=>by simp[over]
 |x::new,[]=>by simp[over,Ca new []]
 |x::new,_::cs=>by simp[over,Ca new cs]
theorem dr{T:Type}:∀(cs:List T)(off:Nat)(new:List T),bu cs off new=cs.take off++new++cs.drop (off+new.length)
 |cs,0,new=>by cases cs<;>simp[bu,Ca]
 |[],_+1,new=>by simp[bu]
 |c::cs,off+1,new=>by rw[bu,dr cs off new,show off+1+new.length=(off+new.length)+1 by omega];simp
def qE(draw:Bool)(m:Mem)(n:Nat)(agg:Bool)(v:V):Option (PV×Mem):=if draw then(match hZ cO n agg v with|some (p,_)=>some (p,m)|none=>none)else hZ m n agg v
def setRow(s:Nat)(e:PV)(off:Nat)(p:PV):PV:=if s=1 then p else .agg ((aA s e).set off p)
def setCells(s:Nat)(e:PV)(off n:Nat)(p:PV):PV:=if off=0∧n=s then p else .agg (bu (aA s e) off p.cells)
def FC(t:TypeId)(i off:Nat)(b:Option bn)(x:V):Option (Nat×TypeId×Nat×PV):=match b,x with
 |some (.arr s et es),.pv p=>bif sZ E t s i off then some (s,et,es.length,p)else none
 |_,_=>none
def nR(draw:Bool)(t:TypeId)(a x:V)(m:Mem)(k:Mem→aY→Option R):Option R:=
 match a with
 |.op id off=>match m id with
  |some (.box cs)=>match toCells (aH E.P t) x with
   |some new=>if off+aH E.P t≤cs.length∧0<aH E.P t then k (ai m id (.box (bu cs off new))) [(true,id)]else none
   |none=>none
  |_=>none
 |.oe id i off=>match FC E t i off (m id) x with
  |some (s,et,n,p)=>(asAgg (aH E.P t) p).bind fun _=>if n*s=aH E.P t∧0<aH E.P t then k (ai m id (.arr s et (kF s n p))) [(true,id)]else none
  |none=>match qE draw m (aH E.P t) (aq E.P t) x with
  |some (p,m)=>match m id with
   |some (.arr s et es)=>(es[i]?).bind fun e=>
    if off=0∧aH E.P t=s∧0<s then k (ai m id (.arr s et (es.set i p))) [(true,id)]
    else if off+aH E.P t≤s∧0<aH E.P t∧1<s then k (ai m id (.arr s et (es.set i (.agg (bu (aA s e) off p.cells))))) [(true,id)]
    else none
   |some (.nest s et es)=>(es[i]?).bind fun e=>if off+aH E.P t≤s∧0<aH E.P t∧1<s then k (ai m id (.nest s et (es.set i (.agg (bu (aA s e) off p.cells))))) [(true,id)]else none
   |_=>none
  |none=>none
 |.tP id i off s j off2=>match hZ cO (aH E.P t) (aq E.P t) x with
  |some (p,_)=>match m id with
   |some (.nest s0 et es)=>(es[i]?).bind fun e=>(bj s (cell e off)).bind fun rs=>(rs[j]?).bind fun q=>
    if off2+aH E.P t≤s∧0<aH E.P t∧off<s0 then k (ai m id (.nest s0 et (es.set i (setRow s0 e off (.gC s (rs.set j (setCells s q off2 (aH E.P t) p))))))) [(true,id)]
    else none
   |_=>none
  |none=>none
 |_=>none
def xr(m:Mem)(x:V)(k:Nat→aY→Option R):Option R:=
 match x with
 |.pv (.rs _ es)=>k es.length []
 |.aX=>k 0 []
 |.eR id _ len=>match m id with
  |some (.arr _ _ _)=>k len [(false,id)]
  |some (.l6 _ _ _)=>k len [(false,id)]
  |_=>none
 |.os id=>match m id with
  |some (.arr _ _ es)=>k es.length [(false,id)]
  |some (.l6 _ _ es)=>k es.length [(false,id)]
  |some (.nest _ _ es)=>k es.length [(false,id)]
  |some (.box cs)=>if cs.length≤maxLen then k cs.length [(false,id)]else none
  |_=>none
 |_=>none
def J9(sz:Nat)(m:Mem)(x:V)(k:Nat→aY→Option R):Option R:=
 match x with
 |.qD id i off=>match m id with
  |some (.nest _ _ es)=>(es[i]?).bind fun e=>(bj sz (cell e off)).bind fun rs=>k rs.length [(false,id)]
  |_=>none
 |x=>xr m x k
def Ka(m:Mem)(x:V)(k:Nat→aY→Option R):Option R:=
 match x with
 |.om id=>match m id with
  |some (.map _ es)=>if es.length≤maxLen then k es.length [(false,id)]else none
  |_=>none
 |.pv .qm=>k 0 []
 |_=>none
def Dp(t:TypeId)(x:V)(m:Mem)(k:V→aY→Option R):Option R:=
 match E.P.underlying t with
 |some (.array n _)=>if n≤maxLen then k (.pv (.int .i64 n)) []else none
 |some .string=>match x with
  |.pv (.str s)=>k (.pv (.int .i64 s.length)) []
  |_=>none
 |some (.slice e)=>J9 (aH E.P e) m x fun n ft=>k (.pv (.int .i64 n)) ft
 |some (.map _ _)=>Ka m x fun n ft=>k (.pv (.int .i64 n)) ft
 |_=>none
def eo(m:Mem)(sz:Nat):V→Option (List PV×aY)
 |.pv (.rs s es)=>if s=sz then some (es,[])else match es with|[]=>some ([],[])|_=>none
 |.aX=>some ([],[])
 |.os id=>match m id with
  |some (.arr s' _ es)=>if s'=sz then some (es,[(false,id)])else none
  |some (.l6 s' _ es)=>if s'=sz then some (es,[(false,id)])else none
  |_=>none
 |.eR id lo len=>match m id with
  |some (.arr s' _ es)=>if s'=sz then some ((es.drop lo).take len,[(false,id)])else none
  |some (.l6 s' _ es)=>if s'=sz then some ((es.drop lo).take len,[(false,id)])else none
  |_=>none
 |.qD id i off=>match m id with
  |some (.nest _ _ es)=>(es[i]?).bind fun e=>(bj sz (cell e off)).bind fun rs=>some (rs,[(false,id)])
  |_=>none
 |_=>none
def Cb(m:Mem)(sz:Nat)(x:V)(k:List PV→aY→Option R):Option R:=
 match x with
 |.qD id i off=>match m id with
  |some (.nest _ _ es)=>(es[i]?).bind fun e=>(bj sz (cell e off)).bind fun rs=>k rs [(false,id)]
  |_=>none
 |x=>match eo m sz x with
  |some (es,ft)=>k es ft
  |none=>none
def vf:List PV→Option Bytes
 |[]=>some []
 |.int .u8 n::r=>(vf r).map fun b=>UInt8.ofNat n.toNat::b
 |_=>none
def vg(s d:TypeId)(a:V)(m:Mem)(k:PV→aY→Option R):Option R:=
 match E.P.underlying s,E.P.underlying d with
 |some (.slice e),some .string=>match E.P.underlying e,eo m 1 a with
  |some (.int .u8),some (es,ft)=>(vf es).bind fun b=>k (.str b) ft
  |_,_=>none
 |_,_=>xX E s d a fun p=>k p []
def ag(i:Int)(n:Nat):Prop:=0≤i∧i<(n:Int)
instance (i:Int) (n:Nat):Decidable (ag i n):=inferInstanceAs (Decidable (_∧_))
def cS(t:TypeId)(x ix:V)(m:Mem)(k:V→aY→Option R):Option R:=
 match ix with
 |.pv (.int _ i)=>match E.P.underlying t,x with
  |some (.slice e),.pv (.rs s es)=>if s=aH E.P e∧0<s then(da es i).bind fun p=>k (.pv (.rp (aA s p))) []else none
  |some (.slice e),.os id=>match m id with
   |some (.arr s _ es)=>if s=aH E.P e∧0<s then(if ag i es.length then k (.oe id i.toNat 0) [(false,id)]else none)else none
   |some (.l6 s _ es)=>if s=aH E.P e∧0<s then(if ag i es.length then k (.oe id i.toNat 0) [(false,id)]else none)else none
   |some (.nest s _ es)=>if s=aH E.P e∧0<s then(if ag i es.length then k (.oe id i.toNat 0) [(false,id)]else none)else none
   |some (.box cs)=>if aH E.P e=1∧ag i cs.length then k (.op id i.toNat) [(false,id)]else none
   |_=>none
  |some (.slice e),.qD id i0 off=>match m id with
   |some (.nest _ _ es)=>if 0<aH E.P e then(es[i0]?).bind fun e0=>(bj (aH E.P e) (cell e0 off)).bind fun rs=>if ag i rs.length then k (.tP id i0 off (aH E.P e) i.toNat 0) [(false,id)]else none else none
   |_=>none
  |some (.slice e),.eR id lo len=>match m id with
   |some (.arr s _ _)=>if s=aH E.P e∧0<s then(if ag i len then k (.oe id (lo+i.toNat) 0) [(false,id)]else none)else none
   |some (.l6 s _ _)=>if s=aH E.P e∧0<s then(if ag i len then k (.oe id (lo+i.toNat) 0) [(false,id)]else none)else none
   |_=>none
  |some (.array n e),.op id off=>if ag i n∧0<aH E.P e then k (.op id (off+i.toNat*aH E.P e)) []else none
  |some (.array n e),.pv (.rp cs)=>if ag i n∧0<aH E.P e then k (.pv (.rp (cs.drop (i.toNat*aH E.P e)))) []else none
  |some (.array n e),.oe id j off=>if ag i n∧0<aH E.P e then(match(match m id with|some (.arr s _ _)=>Nat.beq (aH E.P e) s|_=>false)with
   |true=>k (.oe id (i.toNat+j) off) [(false,id)]
   |false=>k (.oe id j (off+i.toNat*aH E.P e)) [(false,id)])else none
  |_,_=>none
 |_=>none
def tU(s:TypeId)(j:Nat):Option (Nat×TypeId):=
 match E.P.underlying s with
 |some (.struct fs)=>match fs[j]? with
  |some f=>if aH E.P f.type=0 then none else some (f.offset,f.type)
  |none=>none
 |_=>none
def gO(s:TypeId)(x:V)(j:Nat)(k:V→Option R):Option R:=
 match tU E s j with
 |some (o,_)=>match x with
  |.pv (.rp cs)=>k (.pv (.rp (cs.drop o)))
  |.op id off=>k (.op id (off+o))
  |.oe id i off=>k (.oe id i (off+o))
  |.tP id i off s j off2=>k (.tP id i off s j (off2+o))
  |_=>none
 |none=>none
def xY(t:TypeId)(cs:List V)(off:Nat)(k:V→Option R):Option R:=
 if aq E.P t then(if off+aH E.P t≤cs.length then k (.agg ((cs.drop off).take (aH E.P t)))else none)
 else match cs[off]? with
  |some v=>tT E t v k
  |none=>none
def xZ(s:TypeId)(x:V)(j:Nat)(k:V→Option R):Option R:=
 match tU E s j,mo x with
 |some (o,t),some cs=>xY E t cs o k
 |_,_=>none
def vh(t:TypeId)(x ix:V)(k:V→Option R):Option R:=
 match ix with
 |.pv (.int _ i)=>match E.P.underlying t,x with
  |some .string,.pv (.str s)=>(Md s i).bind fun b=>k (.pv (.int .u8 b.toNat))
  |some (.array n et),x=>match mo x with
   |some cs=>if ag i n∧0<aH E.P et then xY E et cs (i.toNat*aH E.P et) k else none
   |none=>none
  |_,_=>none
 |_=>none
def gD(d:Int):Option V→Option Int
 |none=>some d
 |some (.pv (.int _ i))=>some i
 |_=>none
def pe(t:TypeId)(x:V)(lo hi mx:Option V)(m:Mem)(k:V→aY→Option R):Option R:=
 match mx with
 |some mx=>match E.P.underlying t,x with
  |some (.slice e),.os id=>match m id with
   |some (.arr s _ es)=>match lo,hi,mx with
    |none,some (.pv (.int _ h)),.pv (.int _ c)=>if 0≤h∧h≤c∧c≤(es.length:Int)∧s=aH E.P e then k (.eR id 0 h.toNat) [(false,id)]else none
    |_,_,_=>none
   |_=>none
  |_,_=>none
 |none=>match E.P.underlying t,x with
  |some .string,.pv (.str s)=>match gD 0 lo,gD s.length hi with
   |some l,some h=>if 0≤l∧l≤h∧h≤(s.length:Int)then k (.pv (.str ((s.take h.toNat).drop l.toNat))) []else none
   |_,_=>none
  |some (.slice e),.pv (.rs sz es)=>match gD 0 lo,gD es.length hi with
   |some l,some h=>if 0≤l∧l≤h∧h≤(es.length:Int)∧sz=aH E.P e∧aH E.P e≠0 then k (.pv (.rs sz ((es.take h.toNat).drop l.toNat))) []else none
   |_,_=>none
  |some (.slice e),.os id=>match m id with
   |some (.arr s _ es)=>match gD 0 lo,gD es.length hi with
    |some l,some h=>if 0≤l∧l≤h∧h≤(es.length:Int)∧s=aH E.P e then k (.eR id l.toNat (h.toNat-l.toNat)) [(false,id)]else none
    |_,_=>none
   |some (.l6 s _ es)=>match gD 0 lo,gD es.length hi with
    |some l,some h=>if 0≤l∧l≤h∧h≤(es.length:Int)∧s=aH E.P e then k (.eR id l.toNat (h.toNat-l.toNat)) [(false,id)]else none
    |_,_=>none
   |_=>none
  |_,_=>none
def placesOf(fs:List Field)(j:Nat):Option (Nat×Nat):=(fs[j]?).map fun f=>(f.offset,aH E.P f.type)
def AM(place:Nat→Option (Nat×Nat))(cs:List V):List (Nat×V)→Option (List V)
 |[]=>some cs
 |(i,v)::rest=>match place i with
  |some (off,size)=>match toCells size v with
   |some new=>if off+size≤cs.length then AM place (bu cs off new) rest else none
   |none=>none
  |none=>none
def cT(t:TypeId):Option (List V):=match zeroV E.P t with|some v=>toCells (aH E.P t) v|none=>none
def vi(t:TypeId)(parts:List (Nat×V))(k:V→Option R):Option R:=
 match cT E t,E.P.underlying t with
 |some z,some (.struct fs)=>if fs.toList.all (fun f=>(E.P.info? f.type).isSome)then match AM (placesOf E fs.toList) z parts with
  |some cs=>k (.agg cs)
  |none=>none
  else none
 |some z,some (.array _ e)=>if 0<aH E.P e then match AM (fun i=>some (i*aH E.P e,aH E.P e)) z parts with
  |some cs=>k (.agg cs)
  |none=>none
  else none
 |_,_=>none
def ec(m:Mem)(n:Nat)(agg:Bool):Nat→List (Nat×V)→Option (List PV×Mem)
 |_,[]=>some ([],m)
 |i,(j,v)::r=>if i=j then match hZ m n agg v with
  |some (p,m)=>match ec m n agg (i+1) r with
   |some (ps,m)=>some (p::ps,m)
   |none=>none
  |none=>none
  else none
def yb:Nat→List (Nat×V)→Option (List V)
 |_,[]=>some []
 |i,(j,v)::r=>if i=j then match toCells 1 v with
  |some cs=>match yb (i+1) r with
   |some us=>some (cs++us)
   |none=>none
  |none=>none
  else none
def II(t:TypeId):Bool:=match E.P.underlying t with|some (.func _ _ _)=>true|_=>false
def vj(t:TypeId):Option PV:=match zeroV E.P t with
 |some v=>match iB cO 2 v with
  |some p=>if aq E.P t=p.isAgg∧p.cells.length=aH E.P t∧p.plain=true then some p else none
  |none=>none
 |none=>none
def keyOf(kt:TypeId)(v:V):Option PV:=
 match nB E.P kt with
 |some ks=>
  if aq E.P kt then(match mo v with
   |some cs=>match lT (iB cO 1) cs with
    |some ps=>if iK ks ps then some (.agg ps)else none
    |none=>none
   |none=>none)
  else match v with
   |.pv p=>if iK ks [p]then some p else none
   |_=>none
 |none=>none
def Dq(site:Nat)(t:TypeId)(x ix:V)(m:Mem)(k:V→Mem→aY→Option R):Option R:=
 match E.P.underlying t with
 |some (.map kt et)=>match E.P.underlying et with
  |some (.slice e)=>match x,zeroV E.P et with
   |.om id,some .aX=>match m id,m site with
    |some (.eG qp e' es),none=>if qp=kt∧e'=e∧0<aH E.P e then(keyOf E kt ix).bind fun key=>(Dl (aH E.P e) key es).bind fun rs=>k (.os site) (ai (ai m id (.eG kt e (nA key es))) site (.arr (aH E.P e) e rs)) [(true,id),(true,site)]else none
    |_,_=>none
   |_,_=>none
  |_=>none
 |_=>none
def pf(t:TypeId)(x ix:V)(ok:Bool)(m:Mem)(k:V→aY→Option R):Option R:=
 match E.P.underlying t with
 |some (.map kt et)=>match vj E et with
  |some z=>match x with
   |.om id=>match m id with
    |some (.map qp es)=>if qp=kt then(keyOf E kt ix).bind fun key=>fg E et (dB key z es) fun v=>k (if ok then .bA [.pv v,.pv (.bool (qn key es))]else .pv v) [(false,id)]else none
    |_=>none
   |.pv p=>dF kt p ((keyOf E kt ix).bind fun _=>k (if ok then .bA [.pv z,.pv (.bool false)]else .pv z) []) fun ks vs=>(keyOf E kt ix).bind fun key=>fg E et (dB key z (ks.zip vs)) fun v=>k (if ok then .bA [.pv v,.pv (.bool (qn key (ks.zip vs)))]else .pv v) []
   |_=>none
  |none=>none
 |_=>none
def tV(draw:Bool)(m:Mem)(v:V):Option (PV×Mem):=if draw then(match pd cO v with|some (p,_)=>some (p,m)|none=>none)else pd m v
def kH(draw:Bool)(t:TypeId)(x key val:V)(m:Mem)(k:Mem→aY→Option R):Option R:=
 match E.P.underlying t with
 |some (.map kt _)=>match x with
  |.om id=>match tV draw m val with
   |some (v,m)=>match m id with
    |some (.map qp es)=>if qp=kt then(keyOf E kt key).bind fun key=>k (ai m id (.map kt (eA key v es))) [(true,id)]else none
    |_=>none
   |none=>none
  |_=>none
 |_=>none
def aa:Nat:=140737488355328
def iM(m:Mem):Nat→List V→Option (List PV×Option (Nat×Nat))
 |_,[]=>some ([],none)
 |j,.os id::r=>match m id with
  |some (.arr s _ es)=>match iM m (j+1) r with
   |some (ps,none)=>some (.gC s es::ps,some (j,id))
   |_=>none
  |_=>none
 |j,v::r=>match iB cO 1 v with
  |some p=>match iM m (j+1) r with
   |some (ps,t)=>some (p::ps,t)
   |none=>none
  |none=>none
def elemOf(agg:Bool)(ps:List PV):Option PV:=if agg then some (.agg ps)else match ps with|[p]=>some p|_=>none
inductive Sp where
 |st (id i off s:Nat) (et:TypeId) (es ps:List PV) (id2:Nat)
 |app (id s:Nat) (et:TypeId) (es new:List PV) (src:Option Nat) (rd:aY)
 |lit (s:Nat) (et:TypeId) (p:PV) (id2:Nat)
 |upd (id:Nat) (kt e:TypeId) (es:List (PV×PV)) (key:PV) (s:Nat) (rs:List PV) (id2:Nat)
def s9(site:Nat)(o:Oper)(f:Fr)(m:Mem):Option Sp:=
 match o.op with
 |.store t a x=>match bh E f a with
  |.oe id i off=>match m id with
   |some (.nest s et es)=>match toCells (aH E.P t) (bh E f x)with
    |some cs=>match iM m 0 cs with
     |some (ps,some (_,id2))=>if off+aH E.P t≤s&&0<aH E.P t&& !(Nat.beq id2 id)then some (.st id i off s et es ps id2)else none
     |_=>none
    |none=>none
   |_=>none
  |_=>none
 |.buildSlice t len parts=>match E.P.underlying t,parts.toList.map fun(i,x)=>(i,bh E f x)with
  |some (.slice e),[(0,v)]=>match toCells (aH E.P e) v with
   |some cs=>match iM m 0 cs,m site with
    |some (ps,some (_,id2)),none=>match elemOf (aq E.P e) ps with
     |some p=>if Nat.beq len 1&&0<aH E.P e&&aH E.P e≤16777216&&(cT E e).isSome then some (.lit (aH E.P e) e p id2)else none
     |none=>none
    |_,_=>none
   |none=>none
  |_,_=>none
 |.call c=>match c.callee,c.args.toList.map (bh E f),c.argTypes.toList with
  |.builtin .append,[.os id,x],[t,t']=>match E.P.underlying t,m id with
   |some (.slice e),some (.nest s et es)=>if et=e&&s=aH E.P e&&decide (t'=t)&&(cT E e).isSome&&0<aH E.P e&&0<Au E.P e then(match x with
    |.os lU=>match m lU with
     |some (.nest s' ye new)=>if Nat.beq s' s&&decide (ye=et)&& !(Nat.beq lU id)then some (.app id s et es new (some lU) [])else none
     |_=>match eo m s x with
      |some (new,rd)=>if x.has id then none else some (.app id s et es new none rd)
      |none=>none
    |_=>match eo m s x with
     |some (new,rd)=>if x.has id then none else some (.app id s et es new none rd)
     |none=>none)else none
   |_,_=>none
  |_,_,_=>none
 |.mapUpdate t x key v=>match E.P.underlying t,bh E f x,bh E f v with
  |some (.map kt _),.om id,.os id2=>match m id,m id2,keyOf E kt (bh E f key)with
   |some (.eG qp e es),some (.arr s e' rs),some key=>if decide (qp=kt)&&decide (e'=e)&&Nat.beq s (aH E.P e)then some (.upd id kt e es key s rs id2)else none
   |_,_,_=>none
  |_,_,_=>none
 |_=>none
def Sp.info(site:Nat):Sp→Kl×aY
 |.st id _ _ _ _ _ _ id2=>([(true,id2),(false,id)],[(true,id),(true,id2)])
 |.app id _ _ _ _ (some id2) _=>([(true,id2),(true,id)],[(true,id),(true,id2)])
 |.app id _ _ _ _ none rd=>([(true,id)],(true,id)::rd)
 |.lit _ _ _ id2=>([(true,id2)],[(true,site),(true,id2)])
 |.upd id _ _ _ _ _ _ id2=>([(true,id2),(false,id)],[(true,id),(true,id2)])
def Rq(site:Nat)(sp:Sp)(f:Fr)(m:Mem)(k:V→Fr→Mem→aY→Option R):Option R:=
 match sp with
 |.st id i off s et es ps id2=>(es[i]?).bind fun e=>k .top (kf [(true,id2),(false,id)] f) (oG [(id,.nest s et (es.set i (if s=1 then ps.headD .bad else .agg (bu (aA s e) off ps))))] (km [(true,id2),(false,id)] m)) [(true,id),(true,id2)]
 |.app id s et es new src rd=>if(es++new).length*Au E.P et≤aa then k (.os id) (kf (Sp.app id s et es new src rd|>.info site).1 f) (oG [(id,.nest s et (es++new))] (km (Sp.app id s et es new src rd|>.info site).1 m)) (Sp.app id s et es new src rd|>.info site).2 else none
 |.lit s et p id2=>k (.os site) (kf [(true,id2)] f) (oG [(site,.nest s et [p])] (km [(true,id2)] m)) [(true,site),(true,id2)]
 |.upd id kt e es key s rs id2=>k .top (kf [(true,id2),(false,id)] f) (oG [(id,.eG kt e (eA key (.gC s rs) es))] (km [(true,id2),(false,id)] m)) [(true,id),(true,id2)]
def tW(draw:Bool)(site:Nat)(t t':TypeId)(s x:V)(f:Fr)(m:Mem)(k:V→Fr→Mem→Option R):Option R:=
 if draw|| !(decide (t'=t))then none else
 match E.P.underlying t with
 |some (.slice e)=>if(cT E e).isNone then none else match eo m (aH E.P e) x with
  |some (new,_)=>match s with
   |.aX=>if new.length*Au E.P e≤aa∧0<Au E.P e∧0<aH E.P e then fresh draw site (.arr (aH E.P e) e new) f m (fun f m _=>k (.os site) f m)else none
   |.os id=>match m id with
    |some (.arr sz et es)=>if et=e∧sz=aH E.P e∧x.has id=false then(if(es++new).length*Au E.P e≤aa∧0<Au E.P e then fresh draw id (.arr sz e (es++new)) (eB id f) (aQ (bk id m) id) (fun f m _=>k (.os id) f m)else none)else none
    |_=>none
   |_=>none
  |none=>none
 |_=>none
def Dr(t:TypeId)(d x:V)(m:Mem)(k:V→Mem→aY→Option R):Option R:=
 match E.P.underlying t with
 |some (.slice e)=>match d with
  |.os id=>match m id with
   |some (.arr sz et es)=>if sz=aH E.P e∧x.has id=false then Cb m sz x fun new ft=>k (.pv (.int .i64 (min new.length es.length:Nat))) (ai m id (.arr sz et (new.take es.length++es.drop new.length))) ((true,id)::ft)else none
   |_=>none
  |_=>none
 |_=>none
def yf(t:TypeId)(x:V)(m:Mem)(k:V→Mem→aY→Option R):Option R:=
 match E.P.underlying t with
 |some (.slice e)=>match x,vj E e with
  |.eR id lo len,some z=>match m id with
   |some (.arr sz et es)=>if sz=aH E.P e∧et=e∧lo+len≤es.length∧0<aH E.P e then k .top (ai m id (.arr sz et (es.take lo++(List.replicate len z++es.drop (lo+len))))) [(true,id)]else none
   |_=>none
  |_,_=>none
 |_=>none
def mq(draw:Bool)(site:Nat)(t:TypeId)(len cap:V)(f:Fr)(m:Mem)(k:V→Fr→Mem→aY→Option R):Option R:=
 match E.P.underlying t,len,cap with
 |some (.slice e),.pv (.int _ n),.pv (.int _ c)=>match vj E e with
  |some z=>if 0≤n∧n≤c∧c.toNat*Au E.P e≤aa∧0<Au E.P e∧0<aH E.P e then fresh draw site (.arr (aH E.P e) e (List.replicate n.toNat z)) f m (fun f m ft=>k (.os site) f m ft)else none
  |none=>none
 |_,_,_=>none
def Dt(a b:V)(k:PV→Option R):Option R:=match a,b with
 |.pv (.int q x),.pv (.int q' y)=>if q=q' then k (.int q (if y<x then y else x))else none
 |_,_=>none
def wu(a b:V)(k:PV→Option R):Option R:=match a,b with
 |.pv (.int q x),.pv (.int q' y)=>if q=q' then k (.int q (if y>x then y else x))else none
 |_,_=>none
def Du(a b c d:V)(k:PV→Option R):Option R:=wu a b fun p=>wu (.pv p) c fun p=>wu (.pv p) d k
def pg(t:TypeId):Bool:=match E.P.underlying t with|some (.int _)|some .bool|some .string=>true|_=>false
def fT(m:Mem):List V→Option (List PV×Mem)
 |[]=>some ([],m)
 |v::r=>match pd m v with
  |some (p,m)=>match fT m r with
   |some (ps,m)=>some (p::ps,m)
   |none=>none
  |none=>none
def AN:PV→PV
 |.int q n=>.int q n
 |.bool b=>.bool b
 |.str s=>.str s
 |_=>.bad
def pV(draw:Bool)(site:Nat)(fid:FuncId)(args:List V)(f:Fr)(m:Mem)(k:V→Fr→Mem→aY→Option R):Option R:=
 match E.ctx fid with
 |some M=>match E.P.funcs[fid]? with
  |some fn=>
   if fn.resultTypes.toList.all (pg E)then(match lT (iB m ek) args with
     |some ps=>(M ps).bind fun r=>wq E fn.resultTypes.toList r fun v=>k v f m ((fS (cD m ek) args).map fun i=>(false,i))
     |none=>none)
   else(match fT (if draw then cO else m) args with
     |some (ps,m')=>(M ps).bind fun r=>ve E fid fn.resultTypes.toList r fun v=>k v f (if draw then m else m') (if draw then[]else[(true,0)])
     |none=>none)
  |none=>none
 |none=>match E.own fid with
  |some M=>match E.P.funcs[fid]? with
   |some fn=>match fn.resultTypes.toList with
    |[t]=>match E.P.underlying t with
     |some (.slice e)=>if pg E e=true∧aH E.P e=1 then(match lT (iB m ek) args with
      |some ps=>(M ps).bind fun r=>(ae (aH E.P e) r).bind fun es=>fresh draw site (.arr (aH E.P e) e (es.map AN)) f m fun f m1 ft=>k (.os site) f m1 (ft++(fS (cD m ek) args).map fun i=>(false,i))
      |none=>none)
      else match fT (if draw then cO else m) args with
      |some (ps,m')=>(M ps).bind fun r=>(ae (aH E.P e) r).bind fun es=>fresh draw site (.arr (aH E.P e) e es) f (if draw then m else m') fun f m ft=>k (.os site) f m ft
      |none=>none
     |_=>none
    |_=>none
   |none=>none
  |none=>if draw then none else E.inl R fid (site*4096+fid) args f m fun v f m=>k v f m [(true,0)]
def Mg(f:TypeId→Option (List TypeId)):List Field→Option (List TypeId)
 |[]=>some []
 |x::r=>(f x.type).bind fun a=>(Mg f r).bind fun b=>some (a++b)
def Mh(l:List TypeId):Nat→List TypeId
 |0=>[]
 |n+1=>l++Mh l n
def yg(P:Program):Nat→TypeId→Option (List TypeId)
 |0,_=>none
 |d+1,t=>match P.underlying t with
  |some (.struct fs)=>Mg (yg P d) fs.toList
  |some (.array n e)=>(yg P d e).bind fun l=>some (Mh l n)
  |some _=>some [t]
  |none=>none
def pW(n:Nat)(args:List V)(f:Fr):Fr:=fun t=>bif Nat.blt t n then args.getD t .top else f (t-n)
def qF(n:Nat)(f:Fr):Fr:=fun t=>f (t+n)
def Mi:V→Bool
 |.aX=>true
 |_=>false
def oJ(site j:Nat):Nat:=site+(j+1)*1606938044258990275541962092341162602522202993782792835301376
def rN(E:Env){R:Type}(site:Nat):List TypeId→Nat→Fr→Mem→(Fr→Mem→Option R)→Option R
 |[],_,F,m,k=>k F m
 |t::ts,j,F,m,k=>match F j with
  |.aX=>match E.P.underlying t with
   |some (.slice e)=>if 0<aH E.P e then fresh false (oJ site j) (.arr (aH E.P e) e []) F m fun F m _=>rN E site ts (j+1) (eS F j (.os (oJ site j))) m k else none
   |_=>none
  |_=>rN E site ts (j+1) F m k
def Vj(E:Env)(t:TypeId):Bool:=match E.P.underlying t with|some (.slice _)=>true|_=>false
def Cc(f:Fr):Option Operand→Bool
 |none=>true
 |some x=>match bh E f x with|.pv (.int _ _)=>true|_=>false
noncomputable def nD(n:Nat)(g:Nat→Option R):Option R:= @dite _ (∃r,∀i,i<n→g i=some r) (Classical.propDecidable _) (fun h=>some (Classical.choose h)) fun _=>none
def FD(site:Nat)(t:TypeId)(x:V)(f:Fr)(m:Mem)(k:V→Fr→Mem→Option R):Option R:=
 match E.P.underlying t with
 |some (.map kt _)=>match x with
  |.om id=>match m id with
   |some (.map qp es)=>if qp=kt then fresh false site (.iter t es none) (eB id f) (aQ (bk id m) id) fun f m _=>k (.it site) f m else none
   |_=>none
  |_=>none
 |_=>none
noncomputable def Mj(x:V)(f:Fr)(m:Mem)(k:V→Fr→Mem→Option R):Option R:=
 match x with
 |.it id=>match m id with
  |some (.iter t es _)=>match E.P.underlying t with
   |some (.map kt et)=>if es.isEmpty=true then k (.bA [.pv (.bool false)]) f m else nD es.length fun i=>(es[i]?).bind fun e=>fg E kt e.1 fun a=>fg E et e.2 fun b=>k (.bA [.pv (.bool true),.pv a,.pv b]) f (ai m id (.iter t (es.eraseIdx i) (some (a,b))))
   |_=>none
  |_=>none
 |_=>none
def FE(x:V)(m:Mem)(k:V→Mem→Option R):Option R:=
 match x with
 |.it id=>match m id with
  |some (.iter t es (some (a,b)))=>k (.bA [.pv a,.pv b]) (ai m id (.iter t es none))
  |_=>none
 |_=>none
def FF:Op→Bool
 |.range .. =>true
 |.next .. =>true
 |.entry .. =>true
 |_=>false
def pX(g:FuncId):FuncId:=bif Nat.blt g xq then g else g-xq
def ta(g:FuncId)(caps args:List V):List V:=bif Nat.blt g xq then args++caps else caps++args
noncomputable def cu(draw:Bool)(site:Nat)(o:Oper)(f:Fr)(m:Mem)(k:V→Fr→Mem→aY→Option R):Option R:=
 match o.op with
 |.move x=>k (bh E f x) f m []
 |.assign x=>match bh E f x with
  |.aX=>match E.P.underlying o.type with
   |some (.slice e)=>if 0<aH E.P e then fresh draw site (.arr (aH E.P e) e []) f m fun f m ft=>k (.os site) f m ft else none
   |_=>k .aX f m []
  |v=>k v f m []
 |.pick c a b=>match bh E f c with
  |.pv (.bool t)=>if t then k (bh E f a) f m []else k (bh E f b) f m []
  |_=>none
 |.alloc t=>match cT E t with
  |some cs=>bif E.u7 site then(match E.P.underlying t,lT nj cs with
   |some (.array n e),some ps=>if aq E.P e=true∧n*aH E.P e=aH E.P t∧0<aH E.P e∧n≤16777216 then fresh draw site (.arr (aH E.P e) e (kF (aH E.P e) n (.agg ps))) f m fun f m ft=>k (.oe site 0 0) f m ft else none
   |_,_=>none)
   else if !draw&&Vj E t then rN E site [t] 0 (pW cs.length cs f) m fun F m=>fresh false site (.box ((List.range cs.length).map F)) (qF cs.length F) m fun f m ft=>k (.op site 0) f m ft
   else fresh draw site (.box cs) f m fun f m ft=>k (.op site 0) f m ft
  |none=>none
 |.box t x=>match toCells (aH E.P t) (bh E f x)with
  |some cs=>if !draw&&cs.any Mi then(match yg E.P 8 t with
   |some ts=>if ts.length=cs.length then rN E site ts 0 (pW cs.length cs f) m fun F m=>fresh false site (.box ((List.range cs.length).map F)) (qF cs.length F) m fun f m ft=>k (.op site 0) f m ft else none
   |none=>none)else fresh draw site (.box cs) f m fun f m ft=>k (.op site 0) f m ft
  |none=>none
 |.build t parts=>vi E t (parts.toList.map fun(i,x)=>(i,bh E f x)) fun v=>k v f m []
 |.buildSlice t len parts=>match E.P.underlying t with
  |some (.slice e)=>if II E e then(match yb 0 (parts.toList.map fun(i,x)=>(i,bh E f x))with
   |some cs=>if parts.size=len∧aH E.P e=1∧len≤16777216∧(cT E e).isSome=true then fresh draw site (.box cs) f m fun f m ft=>k (.os site) f m ft else none
   |none=>none)
   else if E.u7 (site+1000000000000000000000000000000)then(match ec cO (aH E.P e) (aq E.P e) 0 (parts.toList.map fun(i,x)=>(i,bh E f x))with
   |some (es,_)=>if es.length=len∧0<aH E.P e∧len*aH E.P e≤16777216∧(cT E e).isSome=true then k (.pv (.rs (aH E.P e) es)) f m []else none
   |none=>none)
   else match ec (if draw then cO else m) (aH E.P e) (aq E.P e) 0 (parts.toList.map fun(i,x)=>(i,bh E f x))with
   |some (es,m1)=>if es.length=len∧0<aH E.P e∧len*aH E.P e≤16777216∧(cT E e).isSome=true then fresh draw site (.arr (aH E.P e) e es) f (if draw then m else m1) fun f m ft=>k (.os site) f m ft else none
   |none=>none
  |_=>none
 |.load t a=>lO E (E.u7 site) t (bh E f a) m fun v ft=>k v f m ft
 |.store t a x=>nR E draw t (bh E f a) (bh E f x) m fun m ft=>k .top f m ft
 |.nilCheck x=>match bh E f x with
  |.pv (.rp cs)=>k (.pv (.rp cs)) f m []
  |.op id off=>k (.op id off) f m []
  |.oe id i off=>k (.oe id i off) f m []
  |.tP id i off s j off2=>k (.tP id i off s j off2) f m []
  |.fn g cs=>k (.fn g cs) f m []
  |.pv (.fn g cs)=>k (.pv (.fn g cs)) f m []
  |_=>none
 |.binOp op t x y _=>match bh E f x,bh E f y with
  |.pv (.rs _ es),.aX=>if draw then none else FB E op t es fun b=>k (.pv (.bool b)) f m [(true,0)]
  |a,b=>Dn E op t y a b fun p=>k (.pv p) f m []
 |.unOp op _ x=>ZU op (bh E f x) fun p=>k (.pv p) f m []
 |.convert s d x=>vg E s d (bh E f x) m fun p ft=>k (.pv p) f m ft
 |.makeFunc (.func g) first caps=>bif Nat.blt g xq then(if first.isEmpty then k (.fn g (caps.toList.map (bh E f))) f m []else if caps.isEmpty then k (.fn (g+xq) (first.toList.map (bh E f))) f m []else none)else none
 |.makeMap t hint=>if Cc E f hint=true then match E.P.underlying t with
  |some (.map kt et)=>if(nB E.P kt).isSome then(if E.u7 site then(match E.P.underlying et with
   |some (.slice e)=>fresh draw site (.eG kt e []) f m fun f m ft=>k (.om site) f m ft
   |_=>none)
   else fresh draw site (.map kt []) f m fun f m ft=>k (.om site) f m ft)else none
  |_=>none
  else none
 |.makeSlice t l c=>mq E draw site t (bh E f l) (bh E f c) f m k
 |.slice t x lo hi mx=>pe E t (bh E f x) (lo.map (bh E f)) (hi.map (bh E f)) (mx.map (bh E f)) m fun v ft=>k v f m ft
 |.fieldAddr s x j=>gO E s (bh E f x) j fun v=>k v f m []
 |.field s x j=>xZ E s (bh E f x) j fun v=>k v f m []
 |.indexAddr t x ix=>cS E t (bh E f x) (bh E f ix) m fun v ft=>k v f m ft
 |.index t x ix=>vh E t (bh E f x) (bh E f ix) fun v=>k v f m []
 |.lookup t x ix ok=>if E.u7 site&& !ok then Dq E site t (bh E f x) (bh E f ix) m fun v m ft=>k v f m ft else pf E t (bh E f x) (bh E f ix) ok m fun v ft=>k v f m ft
 |.mapUpdate t x key v=>kH E draw t (bh E f x) (bh E f key) (bh E f v) m fun m ft=>k .top f m ft
 |.insert t x key v=>kH E draw t (bh E f x) (bh E f key) (bh E f v) m fun m ft=>k .top f m ft
 |.range t x=>if draw then none else FD E site t (bh E f x) f m fun v f m=>k v f m [(true,0)]
 |.next x s=>if draw||s then none else Mj E (bh E f x) f m fun v f m=>k v f m [(true,0)]
 |.entry x=>if draw then none else FE (bh E f x) m fun v m=>k v f m [(true,0)]
 |.extract t i=>match bh E f t with
  |.bA vs=>match vs[i]? with
   |some v=>k v f m []
   |none=>none
  |_=>none
 |.call c=>match c.callee,c.args.toList.map (bh E f)with
  |.builtin .len,[x]=>match c.argTypes.toList with
   |[t]=>Dp E t x m fun v ft=>k v f m ft
   |_=>none
  |.builtin .append,[s,x]=>match c.argTypes.toList with
   |[t,t']=>tW E draw site t t' s x f m fun v f m=>k v f m [(true,0)]
   |_=>none
  |.builtin .copy,[d,x]=>match c.argTypes.toList with
   |t::_=>Dr E t d x m fun v m ft=>k v f m ft
   |_=>none
  |.builtin .clear,[x]=>match c.argTypes.toList with
   |t::_=>yf E t x m fun v m ft=>k v f m ft
   |_=>none
  |.builtin .min,[a,b]=>Dt a b fun p=>k (.pv p) f m []
  |.builtin .max,[a,b]=>wu a b fun p=>k (.pv p) f m []
  |.builtin .max,[a,b,c,d]=>Du a b c d fun p=>k (.pv p) f m []
  |.value (.func g),args=>pV E draw site g args f m k
  |.value (.tmp t),args=>match bh E f (.tmp t)with
   |.fn g caps=>pV E draw site (pX g) (ta g caps args) f m k
   |.pv (.fn g caps)=>pV E draw site (pX g) (ta g (caps.map .pv) args) f m k
   |.yl id=>if draw then none else E.yl R E.fn.ntmps site id args f m fun v f m=>k v f m [(true,0)]
   |_=>none
  |_,_=>none
 |_=>none
noncomputable def Dv(draw:Bool)(site:Nat)(o:Oper)(f:Fr)(m:Mem)(k:V→Fr→Mem→aY→Option R):Option R:=
 match(bif draw then none else bif E.u7 site then s9 E site o f m else none)with
 |some sp=>Rq E site sp f m k
 |none=>cu E draw site o f m k
def eH(o:Oper):Bool:=
 match o.op with
 |.move _|.assign _|.pick .. |.load .. |.nilCheck _|.binOp .. |.unOp .. |.convert .. |.slice .. |.fieldAddr .. |.field .. |.indexAddr .. |.index .. |.lookup .. |.extract .. |.build .. =>true
 |.call {callee:=.builtin .len,.. }|.call {callee:=.builtin .min,.. }|.call {callee:=.builtin .max,.. }=>true
 |.call {callee:=.value _,.. }=>true
 |_=>false
def tX:aY→Bool
 |[]=>true
 |(w,_)::r=> !w&&tX r
abbrev Log:=List (Nat×Bool×Nat)
def yj(o:Oper)(j:Nat):Bool:=o.after.toList.any fun e=>Region.binds .any e&&Nat.beq e.on j
mutual
def V.ids:V→List Nat
 |.agg cs=>Dw cs
 |.bA cs=>Dw cs
 |.fn _ cs=>Dw cs
 |.os j=>[j]
 |.eR j _ _=>[j]
 |.oe j _ _=>[j]
 |.om j=>[j]
 |.qD j _ _=>[j]
 |.tP j _ _ _ _ _=>[j]
 |.op j _=>[j]
 |.yl j=>[j]
 |.it j=>[j]
 |_=>[]
def Dw:List V→List Nat
 |[]=>[]
 |v::r=>v.ids++Dw r
end
def yn:Option bn→List Nat
 |some (.box cs)=>Dw cs
 |_=>[]
def rO(n:Nat):Nat:=n+2037035976334486086268445688409378161051468393665936250636140449354381299763336706183397376
def Cd(m m':Mem):aY→List Nat
 |[]=>[]
 |x::r=>yn (m x.2)++yn (m' x.2)++Cd m m' r
def xH(ops:Array Oper)(o:Oper)(f:Fr)(m m':Mem)(v:V)(ft:aY):List Nat:=Dw ((o.looksAt ops).map f)++v.ids++Cd m m' ft
def cg(E:Env)(d:Option Nat):Nat:=match d with|some d=>E.fid*4096+d|none=>E.fid*4096+4095
def isApp(E:Env)(o:Oper):Bool:=E.u7 (cg E o.dst)||match o.op with|.call {callee:=.builtin .append,.. }=>true|_=>false
def pj(E:Env)(f:Fr)(m:Mem)(o:Oper):Option (Nat×aY):=
 match o.op with
 |.call c=>match c.callee,c.args.toList.map (bh E f),c.argTypes.toList with
  |.builtin .append,[.os id,x],[t,_]=>match E.P.underlying t with
   |some (.slice e)=>match eo m (aH E.P e) x with
    |some (_,rd)=>if x.has id then none else some (id,rd)
    |none=>none
   |_=>none
  |_,_,_=>none
 |_=>none
def Ce(E:Env)(f:Fr)(m:Mem)(o:Oper):Option (Kl×aY):=
 match(bif E.u7 (cg E o.dst)then s9 E (cg E o.dst) o f m else none)with
 |some sp=>some (sp.info (cg E o.dst))
 |none=>match pj E f m o with
  |some (id,rd)=>some ([(true,id)],(true,id)::rd)
  |none=>none
def reach(ops:Array Oper):Nat→Oper→Nat→Bool
 |0,o,j=>yj o j
 |n+1,o,j=>yj o j||o.after.toList.any fun e=>Region.binds .any e&&match ops[e.on]? with|some p=>reach ops n p j|none=>false
def IJ(ops:Array Oper)(o:Oper)(w:Bool)(id:Nat):Log→Bool
 |[]=>true
 |(j,w',lU)::r=>(!(Nat.beq id lU)||(!w&& !w')||reach ops 4 o j)&&IJ ops o w id r
def vk(ops:Array Oper)(o:Oper)(lg:Log):aY→Bool
 |[]=>true
 |(w,id)::r=>IJ ops o w id lg&&vk ops o lg r
def xI(ops:Array Oper)(o:Oper)(id:Nat):Log→Bool
 |[]=>true
 |(j,_,n)::r=>(!(Nat.beq n (rO id))||reach ops 4 o j)&&xI ops o id r
def rP(ops:Array Oper):List (Nat×Oper)→Oper→Bool
 |[],_=>true
 |(j,p)::r,o=>(p.apart ops o||reach ops 4 o j)&&rP ops r o
def kS(ops:Array Oper):List (Nat×Oper)→List (Nat×Oper)→Bool
 |_,[]=>true
 |done,(i,o)::r=>o.after.toList.all (fun e=> !(Region.binds .any e)||Nat.blt e.on i)&&rP ops done o&&kS ops ((i,o)::done) r
def guardOf(o:Oper)(A:List (Nat×Bool)):Option (Nat×Bool):=
 match o.guard with
 |none=>none
 |some g=>if A.elem g then none else some g
def wv(A:List (Nat×Bool)):List (Nat×Oper)→List (Nat×Oper)×List (Nat×Oper)
 |[]=>([],[])
 |x::r=>match guardOf x.2 A with
  |some _=>let(a,b):=wv A r;(x::a,b)
  |none=>([],x::r)
def jJ(f:Fr):List (Nat×Oper)→Fr
 |[]=>f
 |x::r=>jJ (gk f x.2.dst .top) r
def qG(g:Nat×Bool):List Nat→List (Nat×Oper)→Bool
 |_,[]=>true
 |done,x::r=>(match x.2.guard with
  |some h=>(Nat.beq h.1 g.1&&(h.2==g.2))||done.elem h.1
  |none=>false)&&qG g (x.1::done) r
def blind(ops:Array Oper)(body:List (Nat×Oper))(o:Oper):Bool:=body.all fun y=>match y.2.dst with
  |some d=> !((o.looksAt ops).elem d)
  |none=>true
def Mk:Bool→Bool→Bool
 |true,b=>b
 |false,b=> !b
def fU(f:Fr):List (Nat×Oper)→Fr
 |[]=>f
 |x::r=>fU (gk f x.2.dst (.bA [])) r
def sD:V→Option Bool
 |.pv (.bool b)=>some b
 |_=>none
end
def qH(E:Env)(o:Oper):Bool:=match o.dst with|some d=>Nat.blt d E.fn.ntmps|none=>true
def Cf(E:Env)(g:FuncId):Bool:=match E.P.funcs[g]? with|some fn=>fn.resultTypes.toList.all (pg E)|none=>false
def PJ(E:Env)(f:Fr)(body:List (Nat×Oper))(o:Oper):Bool:=
 eH o&&match o.op with
 |.call {callee:=.value (.func g),.. }=>(E.ctx g).isSome&&Cf E g
 |.call {callee:=.value (.tmp t),.. }=>match(match body.find? (fun x=>x.2.dst==some t)with
  |some (_,p)=>(match p.op with
   |.move y=>bh E f y
   |.assign y=>bh E f y
   |_=>.top)
  |none=>bh E f (.tmp t))with
  |.fn g _=>(E.ctx (pX g)).isSome&&Cf E (pX g)
  |.pv (.fn g _)=>(E.ctx (pX g)).isSome&&Cf E (pX g)
  |.yl _=>false
  |_=>true
 |_=>true
noncomputable def bM(E:Env)(ops:Array Oper)(mode:Nat):(fuel:Nat)→(R:Type)→List (Nat×Bool)→List (Nat×Oper)→Fr→Mem→Log→(Fr→Mem→Option R)→Option R
 |0,_,_,_,_,_,_,_=>none
 |_+1,_,_,[],f,m,_,k=>k f m
 |fuel+1,R,A,(i,o)::rest,f,m,lg,k=>
  match guardOf o A with
  |none=>
   if qH E o then
    match(bif Nat.beq mode 2 then Ce E f m o else none)with
    |some (kl,ft)=>
     if vk ops o lg ft&&kl.all (fun x=>xI ops o x.2 lg)&&rest.all (fun x=>reach ops 4 x.2 i)then Dv E false (cg E o.dst) o f m fun v f1 m1 _=>bM E ops mode fuel R A rest (gk f1 o.dst v) m1 (ft.map (fun x=>(i,x))++lg) k
     else none
    |none=>Dv E (Nat.beq mode 1||Nat.beq mode 2) (cg E o.dst) o f m fun v f1 m1 ft=>
      if Nat.beq mode 2 then(if vk ops o lg ft then bM E ops mode fuel R A rest (gk f1 o.dst v) m1 ((bif ops.toList.any (isApp E)then(xH ops o f m m1 v ft).map (fun n=>(i,false,rO n))else[])++(ft.map (fun x=>(i,x))++lg)) k else none)
      else if Nat.beq mode 0 then bM E ops mode fuel R A rest (gk f1 o.dst v) m1 lg k
      else if tX ft then bM E ops mode fuel R A rest (gk f1 o.dst v) m1 lg k
      else none
   else none
  |some (j,vl)=>
   match((ops[j]?).bind (·.dst))with
   |some tj=>match bh E f (.tmp tj)with
    |.pv (.bool b)=>
     match wv A ((i,o)::rest)with
     |(body,Dx)=>
     if Nat.beq mode 0&& !(body.all fun x=>PJ E f body x.2)then
      (if(body.all fun x=>qH E x.2)&&qG (j,vl) [] body&&((i,o)::rest).all (fun x=> !(x.2.dst==some tj))then
       bif Mk vl b then bM E ops mode fuel R ((j,vl)::A) ((i,o)::rest) (eS f tj (.pv (.bool vl))) m lg k
       else bM E ops mode fuel R A Dx (fU (eS f tj (.pv (.bool !vl))) body) m lg k
      else none)
     else match Dx with
     |(_,p)::jK=>
      match p.op with
      |.pick (.tmp c) x y=>
       if Nat.beq c tj&&(guardOf p A).isNone&&body.all (fun x=>eH x.2&&qH E x.2&& !(x.2.dst==some tj))&&qG (j,vl) [] body&&jK.all (fun x=>blind ops body x.2)&&qH E p&& !(Nat.beq mode 2)then
        (match vl with
         |true=>bif b then bM E ops (bif Nat.beq mode 0 then 3 else mode) fuel Bool ((j,vl)::A) body f m lg (fun f _=>sD (bh E f x))else sD (bh E (jJ f body) y)
         |false=>bif b then sD (bh E (jJ f body) x)else bM E ops (bif Nat.beq mode 0 then 3 else mode) fuel Bool ((j,vl)::A) body f m lg (fun f _=>sD (bh E f y))).bind fun r=>
        bM E ops mode fuel R A jK (gk (jJ f body) p.dst (.pv (.bool r))) m lg k
       else none
      |_=>none
     |[]=>none
    |_=>none
   |none=>none
inductive Ex where
 |normal
 |exit (id:Nat)
 |ret
def Dy{R:Type}(body:Fr→Mem→(Fr→Mem→Option R)→Option R):Nat→Fr→Mem→Option R
 |0,_,_=>none
 |n+1,f,m=>body f m (Dy body n)
def rQ:Code→Nat
 |.region id _ _=>id
 |.seq a _=>rQ a
 |.cond _ a _=>rQ a
 |.block _ b=>rQ b
 |.loop b=>rQ b
 |.scope b=>rQ b
 |_=>0
def IK:List Sh→Type→Type
 |[],T=>T
 |.raw::r,T=>PV×IK r T
 |.int _::r,T=>Int×IK r T
 |.bool::r,T=>Bool×IK r T
 |.str::r,T=>Bytes×IK r T
 |.rs _::r,T=>List PV×IK r T
 |.rp _::r,T=>PV×IK r T
 |.fs _::r,T=>List PV×IK r T
 |.row _ _::r,T=>Int×IK r T
 |.own _::r,T=>IK r T
def Df:List (Nat×Me)→Type
 |[]=>Unit
 |(_,.box cs)::r=>IK cs (Df r)
 |(_,.arr _ _)::r=>List PV×Df r
 |(_,.l6 _ _)::r=>List PV×Df r
 |(_,.map _)::r=>List (PV×PV)×Df r
 |(_,.nest _ _)::r=>List PV×Df r
 |(_,.eG _ _)::r=>List (PV×PV)×Df r
 |(_,.loop)::r=>Df r
 |(_,.busy)::r=>Df r
 |(_,.iter _)::r=>List (PV×PV)×Df r
def iL.gL(T:iL):List Sh:=T.aG.map Prod.snd
abbrev iL.ty(T:iL):Type:=IK T.gL (Df T.dz)
mutual
def V.same:V→V→Bool
 |.op i o,.op j p=>Nat.beq i j&&Nat.beq o p
 |.oe i a o,.oe j b p=>Nat.beq i j&&Nat.beq a b&&Nat.beq o p
 |.os i,.os j=>Nat.beq i j
 |.om i,.om j=>Nat.beq i j
 |.yl i,.yl j=>Nat.beq i j
 |.it i,.it j=>Nat.beq i j
 |.aX,.aX=>true
 |.pv .lS,.pv .lS=>true
 |.pv .qm,.pv .qm=>true
 |.pv (.int q x),.pv (.int q' y)=>decide (q=q')&&decide (x=y)
 |.fn f cs,.fn g ds=>Nat.beq f g&&AO cs ds
 |_,_=>false
def AO:List V→List V→Bool
 |[],[]=>true
 |a::as,b::bs=>a.same b&&AO as bs
 |_,_=>false
end
section
variable {R:Type}
def gM{T:Type}:(gL:List Sh)→List V→T→(IK gL T→Option R)→Option R
 |[],[],t,k=>k t
 |.int q::gL,.pv (.int q' n)::vs,t,k=>if q'=q then gM gL vs t (fun r=>k (n,r))else none
 |.raw::gL,.pv p::vs,t,k=>gM gL vs t (fun r=>k (p,r))
 |.bool::gL,.pv (.bool b)::vs,t,k=>gM gL vs t (fun r=>k (b,r))
 |.str::gL,.pv (.str s)::vs,t,k=>gM gL vs t (fun r=>k (s,r))
 |.rs sz::gL,.pv (.rs An es)::vs,t,k=>if An=sz then gM gL vs t (fun r=>k (es,r))else none
 |.rp n::gL,.pv (.rp cs)::vs,t,k=>if cs.length=n then gM gL vs t (fun r=>k (.agg cs,r))else none
 |.fs s::gL,.pv p::vs,t,k=>(PI s p).bind fun ls=>gM gL vs t (fun r=>k (ls,r))
 |.row id off::gL,.qD lU i nS::vs,t,k=>if lU=id∧nS=off then gM gL vs t (fun r=>k ((i:Int),r))else none
 |.own v::gL,u::vs,t,k=>if v.same u then gM gL vs t k else none
 |_,_,_,_=>none
def oK(m:Mem):(bs:List (Nat×Me))→(Df bs→Option R)→Option R
 |[],k=>k ()
 |(id,.box cs)::r,k=>match m id with
  |some (.box vs)=>oK m r fun t=>gM (T:=Df r) cs vs t k
  |_=>none
 |(id,.arr sz et)::r,k=>match m id with
  |some (.arr An ye es)=>if An=sz∧ye=et then oK m r fun t=>k (es,t)else none
  |_=>none
 |(id,.l6 sz et)::r,k=>match m id with
  |some (.l6 An ye es)=>if An=sz∧ye=et then oK m r fun t=>k (es,t)else none
  |_=>none
 |(id,.map kt)::r,k=>match m id with
  |some (.map qp es)=>if qp=kt then oK m r fun t=>k (es,t)else none
  |_=>none
 |(id,.nest sz et)::r,k=>match m id with
  |some (.nest An ye es)=>if An=sz∧ye=et then oK m r fun t=>k (es,t)else none
  |_=>none
 |(id,.eG kt e)::r,k=>match m id with
  |some (.eG qp e' es)=>if qp=kt∧e'=e then oK m r fun t=>k (es,t)else none
  |_=>none
 |(id,.loop)::r,k=>match m id with
  |some (.loop .ready)=>oK m r k
  |_=>none
 |(id,.busy)::r,k=>match m id with
  |some (.loop .busy)=>oK m r k
  |_=>none
 |(id,.iter t)::r,k=>match m id with
  |some (.iter t' es none)=>if t'=t then oK m r fun u=>k (es,u)else none
  |_=>none
def Sh.within(M:List Nat):Sh→Bool
 |.own v=>v.within M
 |.row id _=>M.elem id
 |_=>true
def Me.within(M:List Nat):Me→Bool
 |.box cs=>cs.all (·.within M)
 |_=>true
def iL.ok(T:iL):Bool:=T.aG.all (fun x=>x.2.within (T.dz.map (·.1)))&&T.dz.all (fun x=>x.2.within (T.dz.map (·.1)))
def yo:List Sh→List V→Bool
 |[],[]=>true
 |.raw::gL,.pv _::vs=>yo gL vs
 |.int q::gL,.pv (.int q' _)::vs=>decide (q'=q)&&yo gL vs
 |.bool::gL,.pv (.bool _)::vs=>yo gL vs
 |.str::gL,.pv (.str _)::vs=>yo gL vs
 |.rs sz::gL,.pv (.rs An _)::vs=>Nat.beq An sz&&yo gL vs
 |.rp n::gL,.pv (.rp cs)::vs=>Nat.beq cs.length n&&yo gL vs
 |.fs s::gL,.pv p::vs=>(PI s p).isSome&&yo gL vs
 |.row id off::gL,.qD lU _ nS::vs=>Nat.beq lU id&&Nat.beq nS off&&yo gL vs
 |.own v::gL,u::vs=>v.same u&&yo gL vs
 |_,_=>false
def Av(m:Mem):List (Nat×Me)→Bool
 |[]=>true
 |(id,.box cs)::r=>(match m id with|some (.box vs)=>yo cs vs|_=>false)&&Av m r
 |(id,.arr sz _)::r=>(match m id with|some (.arr An _ _)=>Nat.beq An sz|_=>false)&&Av m r
 |(id,.l6 sz _)::r=>(match m id with|some (.l6 An _ _)=>Nat.beq An sz|_=>false)&&Av m r
 |(id,.map _)::r=>(match m id with|some (.map _ _)=>true|_=>false)&&Av m r
 |(id,.nest sz _)::r=>(match m id with|some (.nest An _ _)=>Nat.beq An sz|_=>false)&&Av m r
 |(id,.eG _ _)::r=>(match m id with|some (.eG _ _ _)=>true|_=>false)&&Av m r
 |(id,.loop)::r=>(match m id with|some (.loop .ready)=>true|_=>false)&&Av m r
 |(id,.busy)::r=>(match m id with|some (.loop .busy)=>true|_=>false)&&Av m r
 |(id,.iter _)::r=>(match m id with|some (.iter _ _ none)=>true|_=>false)&&Av m r
def fits(f:Fr)(m:Mem)(T:iL):Bool:=Av m T.dz&&yo T.gL (T.aG.map fun(x:Nat×Sh)=>f x.1)
def enc(T:iL)(f:Fr)(m:Mem)(k:T.ty→Option R):Option R:=if T.ok then oK m T.dz fun t=>gM (T:=Df T.dz) T.gL (T.aG.map fun(x:Nat×Sh)=>f x.1) t k else none
end
def nm{T:Type}:(gL:List Sh)→IK gL T→List V×T
 |[],t=>([],t)
 |.int q::gL,x=>let r:=nm gL x.2;(.pv (.int q x.1)::r.1,r.2)
 |.raw::gL,x=>let r:=nm gL x.2;(.pv x.1::r.1,r.2)
 |.bool::gL,x=>let r:=nm gL x.2;(.pv (.bool x.1)::r.1,r.2)
 |.str::gL,x=>let r:=nm gL x.2;(.pv (.str x.1)::r.1,r.2)
 |.rs sz::gL,x=>let r:=nm gL x.2;(.pv (.rs sz x.1)::r.1,r.2)
 |.rp n::gL,x=>let r:=nm gL x.2;(.pv (.rp (aA n x.1))::r.1,r.2)
 |.fs s::gL,x=>let r:=nm gL x.2;(.pv (B9 s ((List.range s.n).map fun j=>x.1.getD j .bad)).1::r.1,r.2)
 |.row id off::gL,x=>let r:=nm gL x.2;(.qD id x.1.toNat off::r.1,r.2)
 |.own v::gL,x=>let r:=nm (T:=T) gL x;(v::r.1,r.2)
def fA:(bs:List (Nat×Me))→Df bs→List (Nat×Option bn)
 |[],_=>[]
 |(id,.box cs)::r,x=>let y:=nm (T:=Df r) cs x;(id,some (.box y.1))::fA r y.2
 |(id,.arr sz et)::r,x=>(id,some (.arr sz et x.1))::fA r x.2
 |(id,.l6 sz et)::r,x=>(id,some (.l6 sz et x.1))::fA r x.2
 |(id,.map kt)::r,x=>(id,some (.map kt x.1))::fA r x.2
 |(id,.nest sz et)::r,x=>(id,some (.nest sz et x.1))::fA r x.2
 |(id,.eG kt e)::r,x=>(id,some (.eG kt e x.1))::fA r x.2
 |(id,.loop)::r,x=>(id,some (.loop .ready))::fA (r:List (Nat×Me)) x
 |(id,.busy)::r,x=>(id,some (.loop .busy))::fA (r:List (Nat×Me)) x
 |(id,.iter t)::r,x=>(id,some (.iter t x.1 none))::fA r x.2
def mr:List (Nat×Sh)→List V→List (Nat×V)
 |(t,_)::r,v::vs=>(t,v)::mr r vs
 |_,_=>[]
def FG(T:iL)(x:T.ty):Fr:=FA (mr T.aG (nm (T:=Df T.dz) T.gL x).1)
def yp(T:iL)(x:T.ty):Mem:=xU (fA T.dz (nm (T:=Df T.dz) T.gL x).2)
def wx{A:Type}:List (Nat×Nat)→Fr→Mem→(Fr→Mem→A)→A
 |[],f,m,k=>k f m
 |(t,sz)::r,f,m,k=>match f t with
  |.os id=>match m id with
   |some (.arr s et es)=>wx r (eS f t (.pv (.rs s es))) (ai m id (.l6 s et es)) k
   |some (.l6 s _ es)=>wx r (eS f t (.pv (.rs s es))) m k
   |_=>wx r f m k
  |.aX=>wx r (eS f t (.pv (.rs sz []))) m k
  |_=>wx r f m k
def AP{A:Type}:List (Nat×Nat×Nat)→Mem→(Mem→A)→A
 |[],m,k=>k m
 |(id,j,sz)::r,m,k=>match m id with
  |some (.box cs)=>match cs[j]? with
   |some .aX=>AP r (ai m id (.box (cs.set j (.pv (.rs sz []))))) k
   |_=>AP r m k
  |_=>AP r m k
def wy{A:Type}(P:Program):List (Nat×Nat×Nat×TypeId)→Mem→(Mem→A)→A
 |[],m,k=>k m
 |(id,j,Ml,et)::r,m,k=>match m id with
  |some (.box cs)=>match cs[j]? with
   |some .aX=>match m Ml with
    |none=>if 0<aH P et then wy P r (ai (ai m Ml (.arr (aH P et) et [])) id (.box (cs.set j (.os Ml)))) k else wy P r m k
    |some _=>wy P r m k
   |_=>wy P r m k
  |_=>wy P r m k
def Dz{A:Type}:List Nat→Mem→(Mem→A)→A
 |[],m,k=>k m
 |id::r,m,k=>match m id with
  |some (.arr s et es)=>Dz r (ai m id (.nest s et es)) k
  |_=>Dz r m k
def wz{A:Type}:List (Nat×Nat)→Fr→Mem→(Fr→Mem→A)→A
 |[],f,m,k=>k f m
 |(id,j)::r,f,m,k=>match m id with
  |some (.box cs)=>match cs[j]? with
   |some (.eR a 0 len)=>match m a with
    |some (.arr s et es)=>if Nat.beq a id then wz r f m k else wz r (eB a f) (ai (ai (aQ (bk a m) a) a (.arr s et (es.take len))) id (.box ((cs.map (nC a)).set j (.os a)))) k
    |_=>wz r f m k
   |_=>wz r f m k
  |_=>wz r f m k
def AQ{A:Type}(P:Program)(T:iL)(f:Fr)(m:Mem)(k:Fr→Mem→A):A:=wz T.ct f m fun f m=>wy P T.bo m fun m=>AP T.bz m fun m=>Dz T.nz m fun m=>wx T.fz f m k
variable{R:Type}
def Ex.DA(k1:Fr→Mem→Option R)(k:Ex→Fr→Mem→Option R):Ex→Fr→Mem→Option R
 |.normal,f,m=>k1 f m
 |e,f,m=>k e f m
def Ex.Mm(id:Nat)(k:Ex→Fr→Mem→Option R):Ex→Fr→Mem→Option R
 |.exit j,f,m=>if j=id then k .normal f m else k (.exit j) f m
 |e,f,m=>k e f m
def Ex.jmp:Ex→Option UB
 |.normal=>none
 |.exit id=>some (.exit id)
 |.ret=>some .ret
def UB.ex:UB→Ex
 |.ret=>.ret
 |.exit id=>.exit id
def IL(n:Nat)(g f:Fr):Fr:=fun t=>bif Nat.blt t n then g t else f (t-n)
def yq:List Nat→List V→Fr→Fr
 |p::ps,v::vs,f=>yq ps vs (eS f p v)
 |_,_,f=>f
def roundOf(as b:Fr→Mem→(Ex→Fr→Mem→Option R)→Option R)(lid n:Nat)(ps:List Nat)(nt:Nat)(args:List V)(F:Fr)(m:Mem)(k:V→Fr→Mem→Option R):Option R:=
 match m lid with
 |some (.loop .ready)=>if args.length=ps.length then
  as (IL n (yq ps args (qF nt F)) F) m fun e f m=>match e,m lid with
   |.normal,some (.loop .ready)=>b f (ai m lid (.loop .busy)) fun e f m=>match m lid with
    |some (.loop .busy)=>match e.jmp with
     |none=>k (.pv (.bool true)) (qF n f) (ai m lid (.loop .ready))
     |some j=>k (.pv (.bool false)) (qF n f) (ai m lid (.loop (.done j)))
    |_=>none
   |_,_=>none
  else none
 |_=>none
def SN:V→Option (FuncId×List V)
 |.fn g caps=>bif Nat.blt g xq then some (g,caps)else none
 |.pv (.fn g caps)=>bif Nat.blt g xq then some (g,caps.map .pv)else none
 |_=>none
def Vk(E:Env)(o:Oper):Bool:=match o.op with
 |.call c=>match c.callee with
  |.value (.func g)=>(E.ctx g).isNone&&(E.own g).isNone
  |_=>false
 |_=>false
def PK(E:Env)(ops:Array Oper):Option Nat:=ops.toList.findIdx? (Vk E)
def Mn(ops:Array Oper)(p:Nat):Bool:=match ops[p]? with
 |none=>false
 |some o=>o.guard.isNone&&o.after.toList.all (fun e=> !(Region.binds .any e)||Nat.blt e.on p)&&((List.range ops.size).zip ops.toList).all fun x=>bif Nat.blt x.1 p then reach ops 8 o x.1 else Nat.beq x.1 p||reach ops 8 x.2 p
noncomputable def eL:(E:Env)→{R:Type}→Code→Fr→Mem→(Ex→Fr→Mem→Option R)→Option R
 |E,_,.skip,f,m,k=>k .normal f m
 |E,R,.region _ ops draw,f,m,k=>
  if draw then
   match PK E ops with
   |some p=>if Mn ops p&&kS ops [] (((List.range ops.size).zip ops.toList).take p)&&kS ops [] (((List.range ops.size).zip ops.toList).drop (p+1))then
     bM E ops 2 (ops.size+1) R [] (((List.range ops.size).zip ops.toList).take p) f m [] fun f m=>
     bM E ops 0 3 R [] ((((List.range ops.size).zip ops.toList).drop p).take 1) f m [] fun f m=>
     bM E ops 2 (ops.size+1) R [] (((List.range ops.size).zip ops.toList).drop (p+1)) f m [] fun f m=>k .normal f m
    else none
   |none=>
   (if kS ops [] ((List.range ops.size).zip ops.toList)then
    (if ops.toList.all eH then bM E ops 1 (ops.size+1) R [] ((List.range ops.size).zip ops.toList) f m [] fun f m=>k .normal f m
    else bM E ops 2 (ops.size+1) R [] ((List.range ops.size).zip ops.toList) f m [] fun f m=>k .normal f m)
   else none)
  else bM E ops 0 (ops.size+ops.size+1) R [] ((List.range ops.size).zip ops.toList) f m [] fun f m=>k .normal f m
 |E,R,.seq a b,f,m,k=>eL E a f m (Ex.DA (fun f m=>eL E b f m k) k)
 |E,R,.cond c a b,f,m,k=>match c,bh E f c with
  |.tmp x,.pv (.bool t)=>if t then eL E a (eS f x (.pv (.bool true))) m k else eL E b (eS f x (.pv (.bool false))) m k
  |_,_=>none
 |E,R,.block id b,f,m,k=>eL E b f m (Ex.Mm id k)
 |E,R,.loop b,f,m,k=>match(E.hint E.fid (rQ b)).find? (fun T=>AQ E.P T f m fun f m=>fits f m T)with
  |some T=>AQ E.P T f m fun f m=>enc T f m (E.lp.run fun s rec=>eL E b (FG T s) (yp T s) (Ex.DA (fun f m=>AQ E.P T f m fun f m=>enc T f m rec) k))
  |none=>Dy (fun f m rec=>eL E b f m (Ex.DA rec k)) E.u f m
 |E,R,.exit id,f,m,k=>k (.exit id) f m
 |E,R,.ret,f,m,k=>k .ret f m
 |E,R,.label _,f,m,k=>k .normal f m
 |E,R,.scope b,f,m,k=>eL E b f m k
 |E,R,.rangeFunc g ps as b,f,m,k=>if E.SM then none else match ps.toList with
  |p0::_=>fresh true (cg E (some p0)) (.loop .ready) f m fun f m _=>match SN (bh E f g)with
   |some (gid,caps)=>E.SL R gid (cg E (some p0)*4096+gid) (fun _ nt site id args F m k=>bif Nat.beq id (cg E (some p0))then
     roundOf (eL {E with fid:=site*4096+E.fid%4096,yl:=vd,SM:=true} as) (eL {E with fid:=site*4096+E.fid%4096,yl:=vd,SM:=true} b) (cg E (some p0)) E.fn.ntmps ps.toList nt args F m k
     else none)
    (.yl (cg E (some p0))::caps) f m fun _ f m=>match m (cg E (some p0))with
     |some (.loop .ready)=>k .normal (eB (cg E (some p0)) f) (aQ (bk (cg E (some p0)) m) (cg E (some p0)))
     |some (.loop (.done j))=>k j.ex (eB (cg E (some p0)) f) (aQ (bk (cg E (some p0)) m) (cg E (some p0)))
     |_=>none
   |_=>none
  |[]=>none
 |_,_,_,_,_,_=>none
def tY(E:Env){R:Type}(f:Fr)(m:Mem):List ResultVar→(List V→Option R)→Option R
 |[],k=>k []
 |.tmp t::rs,k=>tY E f m rs fun vs=>k (bh E f (.tmp t)::vs)
 |.cell a t::rs,k=>lO E false t (bh E f (.tmp a)) m fun v _=>tY E f m rs fun vs=>k (v::vs)
def Mo(E:Env)(rs:List ResultVar)(f:Fr)(m:Mem):Option PV:=tY E f m rs fun vs=>match vs with
  |[v]=>iB m ek v
  |vs=>(lT (iB m ek) vs).bind fun ps=>some (.bA ps)
section
variable {R:Type} (E:Env)
def Cg(t:TypeId)(p:PV)(k:PV→Option R):Option R:=
 match E.P.underlying t with
 |some (.int _)=>fg E t p k
 |some .bool=>fg E t p k
 |some .string=>fg E t p k
 |some (.slice _)=>fg E t p k
 |some (.map _ _)=>fg E t p k
 |_=>k p
def lV:List TypeId→List PV→(List PV→Option R)→Option R
 |t::ts,p::ps,k=>Cg E t p fun q=>lV ts ps fun qs=>k (q::qs)
 |_,ps,k=>k ps
def IM(n:Nat)(p:PV)(a:Option R)(b:PV→Option R):Option R:=
 match p with
 |.lS=>a
 |.rp cs=>if n≤cs.length then b (.agg cs)else none
 |_=>none
def Mp(t:TypeId)(p:PV)(k:PV→Option R):Option R:=
 match E.P.underlying t with
 |some (.struct _)=>(asAgg (aH E.P t) p).bind fun _=>match yg E.P 8 t with
  |some ts=>lV E ts (aA (aH E.P t) p) fun cs=>k (.agg cs)
  |none=>none
 |some (.array _ _)=>(asAgg (aH E.P t) p).bind fun _=>match yg E.P 8 t with
  |some ts=>lV E ts (aA (aH E.P t) p) fun cs=>k (.agg cs)
  |none=>none
 |some (.pointer e)=>IM (aH E.P e) p (k .lS) fun q=>match yg E.P 8 e with
  |some ts=>lV E ts (aA (aH E.P e) q) fun cs=>k (.rp cs)
  |none=>none
 |_=>Cg E t p k
def tb:List TypeId→List PV→(List PV→Option R)→Option R
 |t::ts,p::ps,k=>Mp E t p fun q=>tb ts ps fun qs=>k (q::qs)
 |_,ps,k=>k ps
end
def yr(args:List V):Fr:=fun t=>args.getD t .top
noncomputable def xJ(E:Env)(args:List V)(f:Fr)(m:Mem)(k:V→Fr→Mem→Option R):Option R:=
 match E.fn.body with
 |some c=>if args.length≤E.fn.ntmps then eL E c (pW E.fn.ntmps args f) m (fun e f m=>match e with
  |.exit _=>none
  |_=>tY E f m E.fn.results.toList fun vs=>match vs with
   |[v]=>k v (qF E.fn.ntmps f) m
   |vs=>k (.bA vs) (qF E.fn.ntmps f) m)else none
 |none=>none
def SO(E:Env)(f:Fr)(m:Mem):Option PV:=
 match E.fn.resultTypes.toList with
 |[t]=>match E.P.underlying t with
  |some (.slice e)=>tY E f m E.fn.results.toList fun vs=>match vs with
   |[.os id]=>match m id with
    |some (.arr sz et es)=>if sz=aH E.P e∧et=e then some (.rs sz es)else none
    |_=>none
   |[.eR id 0 len]=>match m id with
    |some (.arr sz et es)=>if sz=aH E.P e∧et=e then some (.rs sz (es.take len))else none
    |_=>none
   |_=>none
  |_=>none
 |_=>none
noncomputable def jL(E:Env)(args:List PV):Option PV:=
 match E.fn.body with
 |some c=>if args.length≤E.fn.ntmps then tb E E.fn.params.toList args fun vs=>eL E c (yr (vs.map .pv)) (fun _=>none) (fun e f m=>match e with
  |.exit _=>none
  |_=>SO E f m)else none
 |none=>none
noncomputable def aS(E:Env)(args:List PV):Option PV:=
 match E.fn.body with
 |some c=>if args.length≤E.fn.ntmps then tb E E.fn.params.toList args fun vs=>eL E c (yr (vs.map .pv)) (fun _=>none) (fun e f m=>match e with
  |.normal=>Mo E E.fn.results.toList f m
  |.ret=>Mo E E.fn.results.toList f m
  |.exit _=>none)else none
 |none=>none
end Go.Ab
