import Derived.Test.YtmbihgjlollbeaaGreatAbDefs
import Derived.Deep.Quiet
set_option linter.unusedVariables false
set_option linter.unusedSimpArgs false
namespace Go.Ab
inductive FS where
 |raw
 |fn (g:FuncId) (caps:List FS)
 |ptr (cells:List FS)
mutual
def W0:FS→PV→Option (List PV)
 |.raw,p=>some [p]
 |.fn g cs,.fn g' qs=>if g'=g then Ju cs qs else none
 |.ptr cs,.rp qs=>Ju cs qs
 |_,_=>none
def Ju:List FS→List PV→Option (List PV)
 |[],[]=>some []
 |s::ss,p::ps=>(W0 s p).bind fun a=>(Ju ss ps).bind fun b=>some (a++b)
 |_,_=>none
end
mutual
def GY:FS→List PV→PV×List PV
 |.raw,[]=>(.bad,[])
 |.raw,p::r=>(p,r)
 |.fn g cs,l=>(.fn g (Bw cs l).1,(Bw cs l).2)
 |.ptr cs,l=>(.rp (Bw cs l).1,(Bw cs l).2)
def Bw:List FS→List PV→List PV×List PV
 |[],l=>([],l)
 |s::ss,l=>((GY s l).1::(Bw ss (GY s l).2).1,(Bw ss (GY s l).2).2)
end
mutual
def FS.n:FS→Nat
 |.raw=>1
 |.fn _ cs=>nFs cs
 |.ptr cs=>nFs cs
def nFs:List FS→Nat
 |[]=>0
 |s::ss=>s.n+nFs ss
end
inductive Sh where
 |raw
 |int (q:IntKind)
 |bool
 |str
 |rs (sz:Nat)
 |rp (n:Nat)
 |fs (s:FS)
 |row (id off:Nat)
 |own (v:V)
inductive TQ where
 |box (cs:List Sh)
 |arr (sz:Nat) (et:TypeId)
 |pt (sz:Nat) (et:TypeId)
 |map (kt:TypeId)
 |nest (sz:Nat) (et:TypeId)
 |eV (kt e:TypeId)
 |loop
 |busy
 |iter (t:TypeId)
structure dM where
 an:List (Nat×Sh)
 bk:List (Nat×TQ)
 fz:List (Nat×Nat):=[]
 bz:List (Nat×Nat×Nat):=[]
 bo:List (Nat×Nat×Nat×TypeId):=[]
 nz:List Nat:=[]
 ct:List (Nat×Nat):=[]
structure aL where
 run:{S R:Type}→(S→(S→Option R)→Option R)→S→Option R
 room:Nat→Bool
 e9:∀n,room n=true→(n:Int)≤IntKind.i64.max
def cZ{S R:Type}(body:S→(S→Option R)→Option R):Nat→S→Option R
 |0,_=>none
 |n+1,s=>body s (cZ body n)
abbrev YL:=(R:Type)→Nat→Nat→Nat→List V→Fr→Mem→(V→Fr→Mem→Option R)→Option R
def Ax:YL:=fun _ _ _ _ _ _ _ _=>none
structure Env where
 P:Program
 ctx:FuncId→Option (List PV→Option PV)
 aF:Nat→Option (List PV)
 fid:FuncId
 fn:Func
 lp:aL
 hint:Nat→Nat→List dM
 u:Nat
 own:FuncId→Option (List PV→Option PV)
 inl:(R:Type)→FuncId→Nat→List V→Fr→Mem→(V→Fr→Mem→Option R)→Option R
 ZX:(R:Type)→FuncId→Nat→YL→List V→Fr→Mem→(V→Fr→Mem→Option R)→Option R
 yl:YL
 ZY:Bool:=false
 fnr:FuncId→Option FS:=fun _=>none
 Ay:Nat→Bool:=fun _=>false
section
variable {R:Type} (E:Env)
def df(kt:TypeId)(p:PV)(a:Option R)(b:List PV→List PV→Option R):Option R:=
 match p with
 |.sA=>a
 |.rm uR ks vs=>if uR=kt then b ks vs else none
 |_=>none
def fV(t:TypeId)(p:PV)(k:PV→Option R):Option R:=
 match E.P.underlying t with
 |some (.int q)=>(asInt q p).bind fun n=>k (.int q n)
 |some .bool=>(asBool p).bind fun b=>k (.bool b)
 |some .string=>(aG p).bind fun s=>k (.str s)
 |some (.slice e)=>(ay (aQ E.P e) p).bind fun es=>k (.rs (aQ E.P e) es)
 |some (.struct _)=>(asAgg (aQ E.P t) p).bind fun _=>k (.agg (aJ (aQ E.P t) p))
 |some (.array _ _)=>(asAgg (aQ E.P t) p).bind fun _=>k (.agg (aJ (aQ E.P t) p))
 |some (.pointer _)=>match p with
  |.oW=>k p
  |.rp _=>k p
  |_=>none
 |some (.map kt _)=>df kt p (k .sA) fun ks vs=>k (.rm kt ks vs)
 |some (.func _ _ _)=>match p with
  |.Av=>k .Av
  |.fn g cs=>k (.fn g cs)
  |_=>none
 |some (.interface _)=>(Qm p).bind fun b=>k (.WG b)
 |_=>none
def y9(t:TypeId)(v:V)(k:V→Option R):Option R:=
 match v with
 |.pv p=>fV E t p fun p=>k (.pv p)
 |.top=>none
 |v=>if(E.P.underlying t).isSome then k v else none
def Bx:List TypeId→List PV→(List V→Option R)→Option R
 |[],[],k=>k []
 |t::ts,p::ps,k=>fV E t p fun q=>Bx ts ps fun vs=>k (.pv q::vs)
 |_,_,_=>none
def Bz(ts:List TypeId)(r:PV)(k:V→Option R):Option R:=
 match ts with
 |[]=>(bg 0 r).bind fun _=>k (.aP [])
 |[t]=>fV E t r fun q=>k (.pv q)
 |ts=>(bg ts.length r).bind fun vs=>Bx E ts ((List.range ts.length).map fun j=>vs.getD j .bad) fun us=>k (.aP us)
def Az(fid:FuncId)(ts:List TypeId)(r:PV)(k:V→Option R):Option R:=
 match E.fnr fid with
 |some s=>(W0 s r).bind fun ls=>k (.pv (GY s ((List.range s.n).map fun j=>ls.getD j .bad)).1)
 |none=>Bz E ts r k
def bA(f:Fr):Operand→V
 |.tmp t=>bif Nat.blt t E.fn.ntmps then f t else .top
 |.const c=>FE c
 |.global g=>match E.aF g with|some cs=>.pv (.rp cs)|none=>.top
 |.func f=>bif Nat.blt f CY then .fn f []else .top
def fresh(draw:Bool)(site:Nat)(b:bF)(f:Fr)(m:Mem)(k:Fr→Mem→bq→Option R):Option R:=
 match m site with
 |none=>k f (al m site b) [(true,site)]
 |some _=>if draw||b.names site then none else k (eM site f) (al (bB site m) site b) [(true,site)]
def pH:V→Option (List V)
 |.pv (.agg cs)=>some (cs.map .pv)
 |.agg cs=>some cs
 |_=>none
def cU:Mem:=fun _=>none
def lC(op:BinOp)(t:TypeId)(a b:V)(k:PV→Option R):Option R:=
 match a,b with
 |.pv (.int q x),.pv (.int q' y)=>match op with
  |.shl=>if y<0 then none else k (.int q (q.wrap (x*2^(min y.toNat q.bits))))
  |.shr=>if y<0 then none else k (.int q (x.fdiv (2^(min y.toNat q.bits))))
  |op=>if q=q' then match op with
   |.add=>k (.int q (q.wrap (x+y)))
   |.sub=>k (.int q (q.wrap (x-y)))
   |.mul=>k (.int q (q.wrap (x*y)))
   |.quo=>if y=0 then none else k (.int q (q.wrap (x.tdiv y)))
   |.rem=>if y=0 then none else k (.int q (x.tmod y))
   |.and=>k (.int q (q.wrap (BitVec.ofInt q.bits x&&&BitVec.ofInt q.bits y).toNat))
   |.or=>k (.int q (q.wrap (BitVec.ofInt q.bits x|||BitVec.ofInt q.bits y).toNat))
   |.xor=>k (.int q (q.wrap (BitVec.ofInt q.bits x^^^BitVec.ofInt q.bits y).toNat))
   |.andNot=>k (.int q (q.wrap (BitVec.ofInt q.bits x&&& ~~~(BitVec.ofInt q.bits y)).toNat))
   |.eql=>k (.bool (x==y))
   |.neq=>k (.bool (x !=y))
   |.lss=>k (.bool (decide (x<y)))
   |.leq=>k (.bool (decide (x≤y)))
   |.gtr=>k (.bool (decide (x>y)))
   |.geq=>k (.bool (decide (x≥y)))
   |_=>none
   else none
 |.pv (.str x),.pv (.str y)=>match op with
  |.add=>if E.lp.room (x.length+y.length)=true then k (.str (x++y))else none
  |.eql=>k (.bool (x==y))
  |.neq=>k (.bool (!(x==y)))
  |.lss=>k (.bool (Op.bytesLess x y))
  |.leq=>k (.bool (Op.bytesLess x y||x==y))
  |.gtr=>k (.bool (!(Op.bytesLess x y||x==y)))
  |.geq=>k (.bool (!(Op.bytesLess x y)))
  |_=>none
 |.pv (.bool x),.pv (.bool y)=>match op,E.P.underlying t with
  |.eql,some .bool=>k (.bool (x==y))
  |.neq,some .bool=>k (.bool (!(x==y)))
  |_,_=>none
 |.pv .oW,.pv .oW=>match op,E.P.underlying t with
  |.eql,some (.pointer _)=>k (.bool true)
  |.neq,some (.pointer _)=>k (.bool false)
  |_,_=>none
 |.fn _ _,.pv .Av|.pv (.fn _ _),.pv .Av=>match op,E.P.underlying t with
  |.eql,some (.func _ _ _)=>k (.bool false)
  |.neq,some (.func _ _ _)=>k (.bool true)
  |_,_=>none
 |.pv (.rp _),.pv .oW|.op _ _,.pv .oW|.oe _ _ _,.pv .oW=>match op,E.P.underlying t with
  |.eql,some (.pointer _)=>k (.bool false)
  |.neq,some (.pointer _)=>k (.bool true)
  |_,_=>none
 |a,b=>if ax E.P t then match re E.P t,pH a,pH b with
  |some ks,some as,some bs=>match oY (jK cU 1) as,oY (jK cU 1) bs with
   |some as,some bs=>if jc ks as=true∧jc ks bs=true then match op with
    |.eql=>k (.bool (dr as bs))
    |.neq=>k (.bool (!(dr as bs)))
    |_=>none
    else none
   |_,_=>none
  |_,_,_=>none
  else none
def C0:Operand→Bool
 |.const .nilIface=>true
 |_=>false
def TR(op:BinOp)(t:TypeId)(a:V)(k:PV→Option R):Option R:=
 match a with
 |.pv (.WG b)=>match op,E.P.underlying t with
  |.eql,some (.interface _)=>k (.bool (!b))
  |.neq,some (.interface _)=>k (.bool b)
  |_,_=>none
 |_=>none
def Jv(op:BinOp)(t:TypeId)(y:Operand)(a b:V)(k:PV→Option R):Option R:=bif C0 y then TR E op t a k else lC E op t a b k
noncomputable def agree(a b:Option R):Option R:= @ite _ (a=b) (Classical.propDecidable _) a none
noncomputable def MA(op:BinOp)(t:TypeId)(es:List PV)(k:Bool→Option R):Option R:=
 match op,E.P.underlying t with
 |.eql,some (.slice _)=>if es.isEmpty=true then agree (k true) (k false)else k false
 |.neq,some (.slice _)=>if es.isEmpty=true then agree (k false) (k true)else k true
 |_,_=>none
def xun(op:UnOp)(a:V)(k:PV→Option R):Option R:=
 match op,a with
 |.not,.pv (.bool b)=>k (.bool !b)
 |.neg,.pv (.int q n)=>k (.int q (q.wrap (0-n)))
 |.xor,.pv (.int q n)=>k (.int q (q.wrap (BitVec.ofInt q.bits (if q.signed then-1 else q.max)^^^BitVec.ofInt q.bits n).toNat))
 |_,_=>none
def C1(s d:TypeId)(a:V)(k:PV→Option R):Option R:=
 match E.P.underlying s,E.P.underlying d,a with
 |some (.int q),some (.int q'),.pv (.int q'' n)=>if q''=q then(if q'=q then k (.int q n)else k (.int q' (q'.wrap n)))else none
 |some .string,some .string,.pv (.str s)=>k (.str s)
 |_,_,_=>none
def rN(s:Nat)(t:TypeId)(e:PV)(off:Nat)(k:V→Option R):Option R:=
 if ax E.P t then(if off+aQ E.P t≤s then k (.pv (.agg (((aJ s e).drop off).take (aQ E.P t))))else none)
 else match(aJ s e)[off]? with
  |some p=>fV E t p fun p=>k (.pv p)
  |none=>none
def pvO:V→Option PV
 |.pv p=>some p
 |_=>none
def AA(t:TypeId)(s i off:Nat):Bool:=match E.P.underlying t with
 |some (.array _ e)=>Nat.beq (aQ E.P e) s&&ax E.P e&&Nat.beq i 0&&Nat.beq off 0
 |_=>false
def oM(own:Bool)(t:TypeId)(a:V)(m:Mem)(k:V→bq→Option R):Option R:=
 match a with
 |.pv (.rp cs)=>
  if ax E.P t then(if aQ E.P t≤cs.length then k (.pv (.agg (cs.take (aQ E.P t)))) []else none)
  else(cs.head?).bind fun p=>fV E t p fun p=>k (.pv p) []
 |.op id off=>match m id with
  |some (.box cs)=>
   if ax E.P t then(if off+aQ E.P t≤cs.length then k (.agg ((cs.drop off).take (aQ E.P t))) [(false,id)]else none)
   else match oY pvO cs with
    |some ps=>(ps[off]?).bind fun p=>fV E t p fun p=>k (.pv p) [(false,id)]
    |none=>match cs[off]? with
     |some v=>y9 E t v fun v=>k v [(false,id)]
     |none=>none
  |_=>none
 |.oe id i off=>match m id with
  |some (.arr s _ es)=>bif AA E t s i off then(if es.length*s=aQ E.P t then k (.pv (.agg (sB s es))) [(false,id)]else none)else(es[i]?).bind fun e=>rN E s t e off fun v=>k v [(false,id)]
  |some (.pt s _ es)=>(es[i]?).bind fun e=>rN E s t e off fun v=>k v [(false,id)]
  |some (.nest _ _ es)=>if ax E.P t then none else(es[i]?).bind fun e=>
   if own then(match E.P.underlying t with
    |some (.slice et)=>(eL (aQ E.P et) (cell e off)).bind fun _=>k (.vg id i off) [(false,id)]
    |_=>none)
   else fV E t (cell e off) fun p=>k (.pv p) [(false,id)]
  |_=>none
 |.y7 id i off s j off2=>match m id with
  |some (.nest _ _ es)=>(es[i]?).bind fun e=>(eL s (cell e off)).bind fun rs=>(rs[j]?).bind fun q=>rN E s t q off2 fun v=>k v [(false,id)]
  |_=>none
 |_=>none
def over{T:Type}:List T→List T→List T
 |[],cs=>cs
 |x::new,[]=>x::over new []
 |x::new,_::cs=>x::over new cs
def bG{T:Type}:List T→Nat→List T→List T
 |cs,0,new=>over new cs
 |[],_+1,new=>new
 |c::cs,off+1,new=>c::bG cs off new
theorem GZ{T:Type}:∀(new cs:List T),over new cs=new++cs.drop new.length
 |[],cs=>by rfl
 |x::new,[]=>by simp[over,GZ new []]
 |x::new,_::cs=>by simp[over,GZ new cs]
theorem dx{T:Type}:∀(cs:List T)(off:Nat)(new:List T),bG cs off new=cs.take off++new++cs.drop (off+new.length)
 |cs,0,new=>by cases cs<;>simp[bG,GZ]
 |[],_+1,new=>by simp[bG]
 |c::cs,off+1,new=>by rw[bG,dx cs off new,show off+1+new.length=(off+new.length)+1 by omega];simp
def vi(draw:Bool)(m:Mem)(n:Nat)(agg:Bool)(v:V):Option (PV×Mem):=if draw then(match jx cU n agg v with|some (p,_)=>some (p,m)|none=>none)else jx m n agg v
def setRow(s:Nat)(e:PV)(off:Nat)(p:PV):PV:=if s=1 then p else .agg ((aJ s e).set off p)
def setCells(s:Nat)(e:PV)(off n:Nat)(p:PV):PV:=if off=0∧n=s then p else .agg (bG (aJ s e) off p.cells)
def MB(t:TypeId)(i off:Nat)(b:Option bF)(x:V):Option (Nat×TypeId×Nat×PV):=match b,x with
 |some (.arr s et es),.pv p=>bif AA E t s i off then some (s,et,es.length,p)else none
 |_,_=>none
def rO(draw:Bool)(t:TypeId)(a x:V)(m:Mem)(k:Mem→bq→Option R):Option R:=
 match a with
 |.op id off=>match m id with
  |some (.box cs)=>match toCells (aQ E.P t) x with
   |some new=>if off+aQ E.P t≤cs.length∧0<aQ E.P t then k (al m id (.box (bG cs off new))) [(true,id)]else none
   |none=>none
  |_=>none
 |.oe id i off=>match MB E t i off (m id) x with
  |some (s,et,n,p)=>(asAgg (aQ E.P t) p).bind fun _=>if n*s=aQ E.P t∧0<aQ E.P t then k (al m id (.arr s et (gS s n p))) [(true,id)]else none
  |none=>match vi draw m (aQ E.P t) (ax E.P t) x with
  |some (p,m)=>match m id with
   |some (.arr s et es)=>(es[i]?).bind fun e=>
    if off=0∧aQ E.P t=s∧0<s then k (al m id (.arr s et (es.set i p))) [(true,id)]
    else if off+aQ E.P t≤s∧0<aQ E.P t∧1<s then k (al m id (.arr s et (es.set i (.agg (bG (aJ s e) off p.cells))))) [(true,id)]
    else none
   |some (.nest s et es)=>(es[i]?).bind fun e=>if off+aQ E.P t≤s∧0<aQ E.P t∧1<s then k (al m id (.nest s et (es.set i (.agg (bG (aJ s e) off p.cells))))) [(true,id)]else none
   |_=>none
  |none=>none
 |.y7 id i off s j off2=>match jx cU (aQ E.P t) (ax E.P t) x with
  |some (p,_)=>match m id with
   |some (.nest s0 et es)=>(es[i]?).bind fun e=>(eL s (cell e off)).bind fun rs=>(rs[j]?).bind fun q=>
    if off2+aQ E.P t≤s∧0<aQ E.P t∧off<s0 then k (al m id (.nest s0 et (es.set i (setRow s0 e off (.oX s (rs.set j (setCells s q off2 (aQ E.P t) p))))))) [(true,id)]
    else none
   |_=>none
  |none=>none
 |_=>none
def Fa(m:Mem)(x:V)(k:Nat→bq→Option R):Option R:=
 match x with
 |.pv (.rs _ es)=>k es.length []
 |.gy=>k 0 []
 |.fq id _ len=>match m id with
  |some (.arr _ _ _)=>k len [(false,id)]
  |some (.pt _ _ _)=>k len [(false,id)]
  |_=>none
 |.os id=>match m id with
  |some (.arr _ _ es)=>k es.length [(false,id)]
  |some (.pt _ _ es)=>k es.length [(false,id)]
  |some (.nest _ _ es)=>k es.length [(false,id)]
  |some (.box cs)=>if cs.length≤maxLen then k cs.length [(false,id)]else none
  |_=>none
 |_=>none
def RJ(sz:Nat)(m:Mem)(x:V)(k:Nat→bq→Option R):Option R:=
 match x with
 |.vg id i off=>match m id with
  |some (.nest _ _ es)=>(es[i]?).bind fun e=>(eL sz (cell e off)).bind fun rs=>k rs.length [(false,id)]
  |_=>none
 |x=>Fa m x k
def TS(m:Mem)(x:V)(k:Nat→bq→Option R):Option R:=
 match x with
 |.om id=>match m id with
  |some (.map _ es)=>if es.length≤maxLen then k es.length [(false,id)]else none
  |_=>none
 |.pv .sA=>k 0 []
 |_=>none
def Jw(t:TypeId)(x:V)(m:Mem)(k:V→bq→Option R):Option R:=
 match E.P.underlying t with
 |some (.array n _)=>if n≤maxLen then k (.pv (.int .i64 n)) []else none
 |some .string=>match x with
  |.pv (.str s)=>k (.pv (.int .i64 s.length)) []
  |_=>none
 |some (.slice e)=>RJ (aQ E.P e) m x fun n ft=>k (.pv (.int .i64 n)) ft
 |some (.map _ _)=>TS m x fun n ft=>k (.pv (.int .i64 n)) ft
 |_=>none
def ey(m:Mem)(sz:Nat):V→Option (List PV×bq)
 |.pv (.rs s es)=>if s=sz then some (es,[])else match es with|[]=>some ([],[])|_=>none
 |.gy=>some ([],[])
 |.os id=>match m id with
  |some (.arr s' _ es)=>if s'=sz then some (es,[(false,id)])else none
  |some (.pt s' _ es)=>if s'=sz then some (es,[(false,id)])else none
  |_=>none
 |.fq id lo len=>match m id with
  |some (.arr s' _ es)=>if s'=sz then some ((es.drop lo).take len,[(false,id)])else none
  |some (.pt s' _ es)=>if s'=sz then some ((es.drop lo).take len,[(false,id)])else none
  |_=>none
 |.vg id i off=>match m id with
  |some (.nest _ _ es)=>(es[i]?).bind fun e=>(eL sz (cell e off)).bind fun rs=>some (rs,[(false,id)])
  |_=>none
 |_=>none
def G0(m:Mem)(sz:Nat)(x:V)(k:List PV→bq→Option R):Option R:=
 match x with
 |.vg id i off=>match m id with
  |some (.nest _ _ es)=>(es[i]?).bind fun e=>(eL sz (cell e off)).bind fun rs=>k rs [(false,id)]
  |_=>none
 |x=>match ey m sz x with
  |some (es,ft)=>k es ft
  |none=>none
def AB:List PV→Option Bytes
 |[]=>some []
 |.int .u8 n::r=>(AB r).map fun b=>UInt8.ofNat n.toNat::b
 |_=>none
def AD(s d:TypeId)(a:V)(m:Mem)(k:PV→bq→Option R):Option R:=
 match E.P.underlying s,E.P.underlying d with
 |some (.slice e),some .string=>match E.P.underlying e,ey m 1 a with
  |some (.int .u8),some (es,ft)=>(AB es).bind fun b=>k (.str b) ft
  |_,_=>none
 |_,_=>C1 E s d a fun p=>k p []
def aj(i:Int)(n:Nat):Prop:=0≤i∧i<(n:Int)
instance (i:Int) (n:Nat):Decidable (aj i n):=inferInstanceAs (Decidable (_∧_))
def da(t:TypeId)(x ix:V)(m:Mem)(k:V→bq→Option R):Option R:=
 match ix with
 |.pv (.int _ i)=>match E.P.underlying t,x with
  |some (.slice e),.pv (.rs s es)=>if s=aQ E.P e∧0<s then(az es i).bind fun p=>k (.pv (.rp (aJ s p))) []else none
  |some (.slice e),.os id=>match m id with
   |some (.arr s _ es)=>if s=aQ E.P e∧0<s then(if aj i es.length then k (.oe id i.toNat 0) [(false,id)]else none)else none
   |some (.pt s _ es)=>if s=aQ E.P e∧0<s then(if aj i es.length then k (.oe id i.toNat 0) [(false,id)]else none)else none
   |some (.nest s _ es)=>if s=aQ E.P e∧0<s then(if aj i es.length then k (.oe id i.toNat 0) [(false,id)]else none)else none
   |some (.box cs)=>if aQ E.P e=1∧aj i cs.length then k (.op id i.toNat) [(false,id)]else none
   |_=>none
  |some (.slice e),.vg id i0 off=>match m id with
   |some (.nest _ _ es)=>if 0<aQ E.P e then(es[i0]?).bind fun e0=>(eL (aQ E.P e) (cell e0 off)).bind fun rs=>if aj i rs.length then k (.y7 id i0 off (aQ E.P e) i.toNat 0) [(false,id)]else none else none
   |_=>none
  |some (.slice e),.fq id lo len=>match m id with
   |some (.arr s _ _)=>if s=aQ E.P e∧0<s then(if aj i len then k (.oe id (lo+i.toNat) 0) [(false,id)]else none)else none
   |some (.pt s _ _)=>if s=aQ E.P e∧0<s then(if aj i len then k (.oe id (lo+i.toNat) 0) [(false,id)]else none)else none
   |_=>none
  |some (.array n e),.op id off=>if aj i n∧0<aQ E.P e then k (.op id (off+i.toNat*aQ E.P e)) []else none
  |some (.array n e),.pv (.rp cs)=>if aj i n∧0<aQ E.P e then k (.pv (.rp (cs.drop (i.toNat*aQ E.P e)))) []else none
  |some (.array n e),.oe id j off=>if aj i n∧0<aQ E.P e then(match(match m id with|some (.arr s _ _)=>Nat.beq (aQ E.P e) s|_=>false)with
   |true=>k (.oe id (i.toNat+j) off) [(false,id)]
   |false=>k (.oe id j (off+i.toNat*aQ E.P e)) [(false,id)])else none
  |_,_=>none
 |_=>none
def za(s:TypeId)(j:Nat):Option (Nat×TypeId):=
 match E.P.underlying s with
 |some (.struct fs)=>match fs[j]? with
  |some f=>if aQ E.P f.type=0 then none else some (f.offset,f.type)
  |none=>none
 |_=>none
def jd(s:TypeId)(x:V)(j:Nat)(k:V→Option R):Option R:=
 match za E s j with
 |some (o,_)=>match x with
  |.pv (.rp cs)=>k (.pv (.rp (cs.drop o)))
  |.op id off=>k (.op id (off+o))
  |.oe id i off=>k (.oe id i (off+o))
  |.y7 id i off s j off2=>k (.y7 id i off s j (off2+o))
  |_=>none
 |none=>none
def C2(t:TypeId)(cs:List V)(off:Nat)(k:V→Option R):Option R:=
 if ax E.P t then(if off+aQ E.P t≤cs.length then k (.agg ((cs.drop off).take (aQ E.P t)))else none)
 else match cs[off]? with
  |some v=>y9 E t v k
  |none=>none
def C3(s:TypeId)(x:V)(j:Nat)(k:V→Option R):Option R:=
 match za E s j,pH x with
 |some (o,t),some cs=>C2 E t cs o k
 |_,_=>none
def AE(t:TypeId)(x ix:V)(k:V→Option R):Option R:=
 match ix with
 |.pv (.int _ i)=>match E.P.underlying t,x with
  |some .string,.pv (.str s)=>(RI s i).bind fun b=>k (.pv (.int .u8 b.toNat))
  |some (.array n et),x=>match pH x with
   |some cs=>if aj i n∧0<aQ E.P et then C2 E et cs (i.toNat*aQ E.P et) k else none
   |none=>none
  |_,_=>none
 |_=>none
def iM(d:Int):Option V→Option Int
 |none=>some d
 |some (.pv (.int _ i))=>some i
 |_=>none
def tt(t:TypeId)(x:V)(lo hi mx:Option V)(m:Mem)(k:V→bq→Option R):Option R:=
 match mx with
 |some mx=>match E.P.underlying t,x with
  |some (.slice e),.os id=>match m id with
   |some (.arr s _ es)=>match lo,hi,mx with
    |none,some (.pv (.int _ h)),.pv (.int _ c)=>if 0≤h∧h≤c∧c≤(es.length:Int)∧s=aQ E.P e then k (.fq id 0 h.toNat) [(false,id)]else none
    |_,_,_=>none
   |_=>none
  |_,_=>none
 |none=>match E.P.underlying t,x with
  |some .string,.pv (.str s)=>match iM 0 lo,iM s.length hi with
   |some l,some h=>if 0≤l∧l≤h∧h≤(s.length:Int)then k (.pv (.str ((s.take h.toNat).drop l.toNat))) []else none
   |_,_=>none
  |some (.slice e),.pv (.rs sz es)=>match iM 0 lo,iM es.length hi with
   |some l,some h=>if 0≤l∧l≤h∧h≤(es.length:Int)∧sz=aQ E.P e∧aQ E.P e≠0 then k (.pv (.rs sz ((es.take h.toNat).drop l.toNat))) []else none
   |_,_=>none
  |some (.slice e),.os id=>match m id with
   |some (.arr s _ es)=>match iM 0 lo,iM es.length hi with
    |some l,some h=>if 0≤l∧l≤h∧h≤(es.length:Int)∧s=aQ E.P e then k (.fq id l.toNat (h.toNat-l.toNat)) [(false,id)]else none
    |_,_=>none
   |some (.pt s _ es)=>match iM 0 lo,iM es.length hi with
    |some l,some h=>if 0≤l∧l≤h∧h≤(es.length:Int)∧s=aQ E.P e then k (.fq id l.toNat (h.toNat-l.toNat)) [(false,id)]else none
    |_,_=>none
   |_=>none
  |_,_=>none
def placesOf(fs:List Field)(j:Nat):Option (Nat×Nat):=(fs[j]?).map fun f=>(f.offset,aQ E.P f.type)
def FF(place:Nat→Option (Nat×Nat))(cs:List V):List (Nat×V)→Option (List V)
 |[]=>some cs
 |(i,v)::rest=>match place i with
  |some (off,size)=>match toCells size v with
   |some new=>if off+size≤cs.length then FF place (bG cs off new) rest else none
   |none=>none
  |none=>none
def db(t:TypeId):Option (List V):=match zeroV E.P t with|some v=>toCells (aQ E.P t) v|none=>none
def AF(t:TypeId)(parts:List (Nat×V))(k:V→Option R):Option R:=
 match db E t,E.P.underlying t with
 |some z,some (.struct fs)=>if fs.toList.all (fun f=>(E.P.info? f.type).isSome)then match FF (placesOf E fs.toList) z parts with
  |some cs=>k (.agg cs)
  |none=>none
  else none
 |some z,some (.array _ e)=>if 0<aQ E.P e then match FF (fun i=>some (i*aQ E.P e,aQ E.P e)) z parts with
  |some cs=>k (.agg cs)
  |none=>none
  else none
 |_,_=>none
def eU(m:Mem)(n:Nat)(agg:Bool):Nat→List (Nat×V)→Option (List PV×Mem)
 |_,[]=>some ([],m)
 |i,(j,v)::r=>if i=j then match jx m n agg v with
  |some (p,m)=>match eU m n agg (i+1) r with
   |some (ps,m)=>some (p::ps,m)
   |none=>none
  |none=>none
  else none
def C4:Nat→List (Nat×V)→Option (List V)
 |_,[]=>some []
 |i,(j,v)::r=>if i=j then match toCells 1 v with
  |some cs=>match C4 (i+1) r with
   |some us=>some (cs++us)
   |none=>none
  |none=>none
  else none
def Qn(t:TypeId):Bool:=match E.P.underlying t with|some (.func _ _ _)=>true|_=>false
def AG(t:TypeId):Option PV:=match zeroV E.P t with
 |some v=>match jK cU 2 v with
  |some p=>if ax E.P t=p.isAgg∧p.cells.length=aQ E.P t∧p.plain=true then some p else none
  |none=>none
 |none=>none
def keyOf(kt:TypeId)(v:V):Option PV:=
 match re E.P kt with
 |some ks=>
  if ax E.P kt then(match pH v with
   |some cs=>match oY (jK cU 1) cs with
    |some ps=>if jc ks ps then some (.agg ps)else none
    |none=>none
   |none=>none)
  else match v with
   |.pv p=>if jc ks [p]then some p else none
   |_=>none
 |none=>none
def Jx(site:Nat)(t:TypeId)(x ix:V)(m:Mem)(k:V→Mem→bq→Option R):Option R:=
 match E.P.underlying t with
 |some (.map kt et)=>match E.P.underlying et with
  |some (.slice e)=>match x,zeroV E.P et with
   |.om id,some .gy=>match m id,m site with
    |some (.eV uR e' es),none=>if uR=kt∧e'=e∧0<aQ E.P e then(keyOf E kt ix).bind fun key=>(Jt (aQ E.P e) key es).bind fun rs=>k (.os site) (al (al m id (.eV kt e (q9 key es))) site (.arr (aQ E.P e) e rs)) [(true,id),(true,site)]else none
    |_,_=>none
   |_,_=>none
  |_=>none
 |_=>none
def tu(t:TypeId)(x ix:V)(ok:Bool)(m:Mem)(k:V→bq→Option R):Option R:=
 match E.P.underlying t with
 |some (.map kt et)=>match AG E et with
  |some z=>match x with
   |.om id=>match m id with
    |some (.map uR es)=>if uR=kt then(keyOf E kt ix).bind fun key=>fV E et (cH key z es) fun v=>k (if ok then .aP [.pv v,.pv (.bool (tp key es))]else .pv v) [(false,id)]else none
    |_=>none
   |.pv p=>df kt p ((keyOf E kt ix).bind fun _=>k (if ok then .aP [.pv z,.pv (.bool false)]else .pv z) []) fun ks vs=>(keyOf E kt ix).bind fun key=>fV E et (cH key z (ks.zip vs)) fun v=>k (if ok then .aP [.pv v,.pv (.bool (tp key (ks.zip vs)))]else .pv v) []
   |_=>none
  |none=>none
 |_=>none
def zb(draw:Bool)(m:Mem)(v:V):Option (PV×Mem):=if draw then(match tq cU v with|some (p,_)=>some (p,m)|none=>none)else tq m v
def mT(draw:Bool)(t:TypeId)(x key val:V)(m:Mem)(k:Mem→bq→Option R):Option R:=
 match E.P.underlying t with
 |some (.map kt _)=>match x with
  |.om id=>match zb draw m val with
   |some (v,m)=>match m id with
    |some (.map uR es)=>if uR=kt then(keyOf E kt key).bind fun key=>k (al m id (.map kt (dE key v es))) [(true,id)]else none
    |_=>none
   |none=>none
  |_=>none
 |_=>none
def ar:Nat:=140737488355328
def kg(m:Mem):Nat→List V→Option (List PV×Option (Nat×Nat))
 |_,[]=>some ([],none)
 |j,.os id::r=>match m id with
  |some (.arr s _ es)=>match kg m (j+1) r with
   |some (ps,none)=>some (.oX s es::ps,some (j,id))
   |_=>none
  |_=>none
 |j,v::r=>match jK cU 1 v with
  |some p=>match kg m (j+1) r with
   |some (ps,t)=>some (p::ps,t)
   |none=>none
  |none=>none
def elemOf(agg:Bool)(ps:List PV):Option PV:=if agg then some (.agg ps)else match ps with|[p]=>some p|_=>none
inductive Sp where
 |st (id i off s:Nat) (et:TypeId) (es ps:List PV) (id2:Nat)
 |app (id s:Nat) (et:TypeId) (es new:List PV) (src:Option Nat) (rd:bq)
 |lit (s:Nat) (et:TypeId) (p:PV) (id2:Nat)
 |upd (id:Nat) (kt e:TypeId) (es:List (PV×PV)) (key:PV) (s:Nat) (rs:List PV) (id2:Nat)
def xY(site:Nat)(o:Oper)(f:Fr)(m:Mem):Option Sp:=
 match o.op with
 |.store t a x=>match bA E f a with
  |.oe id i off=>match m id with
   |some (.nest s et es)=>match toCells (aQ E.P t) (bA E f x)with
    |some cs=>match kg m 0 cs with
     |some (ps,some (_,id2))=>if off+aQ E.P t≤s&&0<aQ E.P t&& !(Nat.beq id2 id)then some (.st id i off s et es ps id2)else none
     |_=>none
    |none=>none
   |_=>none
  |_=>none
 |.buildSlice t len parts=>match E.P.underlying t,parts.toList.map fun(i,x)=>(i,bA E f x)with
  |some (.slice e),[(0,v)]=>match toCells (aQ E.P e) v with
   |some cs=>match kg m 0 cs,m site with
    |some (ps,some (_,id2)),none=>match elemOf (ax E.P e) ps with
     |some p=>if Nat.beq len 1&&0<aQ E.P e&&aQ E.P e≤16777216&&(db E e).isSome then some (.lit (aQ E.P e) e p id2)else none
     |none=>none
    |_,_=>none
   |none=>none
  |_,_=>none
 |.call c=>match c.callee,c.args.toList.map (bA E f),c.argTypes.toList with
  |.builtin .append,[.os id,x],[t,t']=>match E.P.underlying t,m id with
   |some (.slice e),some (.nest s et es)=>if et=e&&s=aQ E.P e&&decide (t'=t)&&(db E e).isSome&&0<aQ E.P e&&0<E9 E.P e then(match x with
    |.os qW=>match m qW with
     |some (.nest s' E2 new)=>if Nat.beq s' s&&decide (E2=et)&& !(Nat.beq qW id)then some (.app id s et es new (some qW) [])else none
     |_=>match ey m s x with
      |some (new,rd)=>if x.has id then none else some (.app id s et es new none rd)
      |none=>none
    |_=>match ey m s x with
     |some (new,rd)=>if x.has id then none else some (.app id s et es new none rd)
     |none=>none)else none
   |_,_=>none
  |_,_,_=>none
 |.mapUpdate t x key v=>match E.P.underlying t,bA E f x,bA E f v with
  |some (.map kt _),.om id,.os id2=>match m id,m id2,keyOf E kt (bA E f key)with
   |some (.eV uR e es),some (.arr s e' rs),some key=>if decide (uR=kt)&&decide (e'=e)&&Nat.beq s (aQ E.P e)then some (.upd id kt e es key s rs id2)else none
   |_,_,_=>none
  |_,_,_=>none
 |_=>none
def Sp.info(site:Nat):Sp→Kl×bq
 |.st id _ _ _ _ _ _ id2=>([(true,id2),(false,id)],[(true,id),(true,id2)])
 |.app id _ _ _ _ (some id2) _=>([(true,id2),(true,id)],[(true,id),(true,id2)])
 |.app id _ _ _ _ none rd=>([(true,id)],(true,id)::rd)
 |.lit _ _ _ id2=>([(true,id2)],[(true,site),(true,id2)])
 |.upd id _ _ _ _ _ _ id2=>([(true,id2),(false,id)],[(true,id),(true,id2)])
def YT(site:Nat)(sp:Sp)(f:Fr)(m:Mem)(k:V→Fr→Mem→bq→Option R):Option R:=
 match sp with
 |.st id i off s et es ps id2=>(es[i]?).bind fun e=>k .top (kf [(true,id2),(false,id)] f) (sw [(id,.nest s et (es.set i (if s=1 then ps.headD .bad else .agg (bG (aJ s e) off ps))))] (km [(true,id2),(false,id)] m)) [(true,id),(true,id2)]
 |.app id s et es new src rd=>if(es++new).length*E9 E.P et≤ar then k (.os id) (kf (Sp.app id s et es new src rd|>.info site).1 f) (sw [(id,.nest s et (es++new))] (km (Sp.app id s et es new src rd|>.info site).1 m)) (Sp.app id s et es new src rd|>.info site).2 else none
 |.lit s et p id2=>k (.os site) (kf [(true,id2)] f) (sw [(site,.nest s et [p])] (km [(true,id2)] m)) [(true,site),(true,id2)]
 |.upd id kt e es key s rs id2=>k .top (kf [(true,id2),(false,id)] f) (sw [(id,.eV kt e (dE key (.oX s rs) es))] (km [(true,id2),(false,id)] m)) [(true,id),(true,id2)]
def zd(draw:Bool)(site:Nat)(t t':TypeId)(s x:V)(f:Fr)(m:Mem)(k:V→Fr→Mem→Option R):Option R:=
 if draw|| !(decide (t'=t))then none else
 match E.P.underlying t with
 |some (.slice e)=>if(db E e).isNone then none else match ey m (aQ E.P e) x with
  |some (new,_)=>match s with
   |.gy=>if new.length*E9 E.P e≤ar∧0<E9 E.P e∧0<aQ E.P e then fresh draw site (.arr (aQ E.P e) e new) f m (fun f m _=>k (.os site) f m)else none
   |.os id=>match m id with
    |some (.arr sz et es)=>if et=e∧sz=aQ E.P e∧x.has id=false then(if(es++new).length*E9 E.P e≤ar∧0<E9 E.P e then fresh draw id (.arr sz e (es++new)) (eM id f) (bj (bB id m) id) (fun f m _=>k (.os id) f m)else none)else none
    |_=>none
   |_=>none
  |none=>none
 |_=>none
def Jy(t:TypeId)(d x:V)(m:Mem)(k:V→Mem→bq→Option R):Option R:=
 match E.P.underlying t with
 |some (.slice e)=>match d with
  |.os id=>match m id with
   |some (.arr sz et es)=>if sz=aQ E.P e∧x.has id=false then G0 m sz x fun new ft=>k (.pv (.int .i64 (min new.length es.length:Nat))) (al m id (.arr sz et (new.take es.length++es.drop new.length))) ((true,id)::ft)else none
   |_=>none
  |_=>none
 |_=>none
def C5(t:TypeId)(x:V)(m:Mem)(k:V→Mem→bq→Option R):Option R:=
 match E.P.underlying t with
 |some (.slice e)=>match x,AG E e with
  |.fq id lo len,some z=>match m id with
   |some (.arr sz et es)=>if sz=aQ E.P e∧et=e∧lo+len≤es.length∧0<aQ E.P e then k .top (al m id (.arr sz et (es.take lo++(List.replicate len z++es.drop (lo+len))))) [(true,id)]else none
   |_=>none
  |_,_=>none
 |_=>none
def pI(draw:Bool)(site:Nat)(t:TypeId)(len cap:V)(f:Fr)(m:Mem)(k:V→Fr→Mem→bq→Option R):Option R:=
 match E.P.underlying t,len,cap with
 |some (.slice e),.pv (.int _ n),.pv (.int _ c)=>match AG E e with
  |some z=>if 0≤n∧n≤c∧c.toNat*E9 E.P e≤ar∧0<E9 E.P e∧0<aQ E.P e then fresh draw site (.arr (aQ E.P e) e (List.replicate n.toNat z)) f m (fun f m ft=>k (.os site) f m ft)else none
  |none=>none
 |_,_,_=>none
def Jz(a b:V)(k:PV→Option R):Option R:=match a,b with
 |.pv (.int q x),.pv (.int q' y)=>if q=q' then k (.int q (if y<x then y else x))else none
 |_,_=>none
def BA(a b:V)(k:PV→Option R):Option R:=match a,b with
 |.pv (.int q x),.pv (.int q' y)=>if q=q' then k (.int q (if y>x then y else x))else none
 |_,_=>none
def JA(a b c d:V)(k:PV→Option R):Option R:=BA a b fun p=>BA (.pv p) c fun p=>BA (.pv p) d k
def tv(t:TypeId):Bool:=match E.P.underlying t with|some (.int _)|some .bool|some .string=>true|_=>false
def gU(m:Mem):List V→Option (List PV×Mem)
 |[]=>some ([],m)
 |v::r=>match tq m v with
  |some (p,m)=>match gU m r with
   |some (ps,m)=>some (p::ps,m)
   |none=>none
  |none=>none
def FG:PV→PV
 |.int q n=>.int q n
 |.bool b=>.bool b
 |.str s=>.str s
 |_=>.bad
def ur(draw:Bool)(site:Nat)(fid:FuncId)(args:List V)(f:Fr)(m:Mem)(k:V→Fr→Mem→bq→Option R):Option R:=
 match E.ctx fid with
 |some M=>match E.P.funcs[fid]? with
  |some fn=>
   if fn.resultTypes.toList.all (tv E)then(match oY (jK m ev) args with
     |some ps=>(M ps).bind fun r=>Bz E fn.resultTypes.toList r fun v=>k v f m ((gT (cK m ev) args).map fun i=>(false,i))
     |none=>none)
   else(match gU (if draw then cU else m) args with
     |some (ps,m')=>(M ps).bind fun r=>Az E fid fn.resultTypes.toList r fun v=>k v f (if draw then m else m') (if draw then[]else[(true,0)])
     |none=>none)
  |none=>none
 |none=>match E.own fid with
  |some M=>match E.P.funcs[fid]? with
   |some fn=>match fn.resultTypes.toList with
    |[t]=>match E.P.underlying t with
     |some (.slice e)=>if tv E e=true∧aQ E.P e=1 then(match oY (jK m ev) args with
      |some ps=>(M ps).bind fun r=>(ay (aQ E.P e) r).bind fun es=>fresh draw site (.arr (aQ E.P e) e (es.map FG)) f m fun f m1 ft=>k (.os site) f m1 (ft++(gT (cK m ev) args).map fun i=>(false,i))
      |none=>none)
      else match gU (if draw then cU else m) args with
      |some (ps,m')=>(M ps).bind fun r=>(ay (aQ E.P e) r).bind fun es=>fresh draw site (.arr (aQ E.P e) e es) f (if draw then m else m') fun f m ft=>k (.os site) f m ft
      |none=>none
     |_=>none
    |_=>none
   |none=>none
  |none=>if draw then none else E.inl R fid (site*4096+fid) args f m fun v f m=>k v f m [(true,0)]
def TT(f:TypeId→Option (List TypeId)):List Field→Option (List TypeId)
 |[]=>some []
 |x::r=>(f x.type).bind fun a=>(TT f r).bind fun b=>some (a++b)
def TU(l:List TypeId):Nat→List TypeId
 |0=>[]
 |n+1=>l++TU l n
def C6(P:Program):Nat→TypeId→Option (List TypeId)
 |0,_=>none
 |d+1,t=>match P.underlying t with
  |some (.struct fs)=>TT (C6 P d) fs.toList
  |some (.array n e)=>(C6 P d e).bind fun l=>some (TU l n)
  |some _=>some [t]
  |none=>none
def uu(n:Nat)(args:List V)(f:Fr):Fr:=fun t=>bif Nat.blt t n then args.getD t .top else f (t-n)
def vj(n:Nat)(f:Fr):Fr:=fun t=>f (t+n)
def TV:V→Bool
 |.gy=>true
 |_=>false
def sD(site j:Nat):Nat:=site+(j+1)*1606938044258990275541962092341162602522202993782792835301376
def wG(E:Env){R:Type}(site:Nat):List TypeId→Nat→Fr→Mem→(Fr→Mem→Option R)→Option R
 |[],_,F,m,k=>k F m
 |t::ts,j,F,m,k=>match F j with
  |.gy=>match E.P.underlying t with
   |some (.slice e)=>if 0<aQ E.P e then fresh false (sD site j) (.arr (aQ E.P e) e []) F m fun F m _=>wG E site ts (j+1) (fT F j (.os (sD site j))) m k else none
   |_=>none
  |_=>wG E site ts (j+1) F m k
def acf(E:Env)(t:TypeId):Bool:=match E.P.underlying t with|some (.slice _)=>true|_=>false
def G1(f:Fr):Option Operand→Bool
 |none=>true
 |some x=>match bA E f x with|.pv (.int _ _)=>true|_=>false
noncomputable def ri(n:Nat)(g:Nat→Option R):Option R:= @dite _ (∃r,∀i,i<n→g i=some r) (Classical.propDecidable _) (fun h=>some (Classical.choose h)) fun _=>none
def MC(site:Nat)(t:TypeId)(x:V)(f:Fr)(m:Mem)(k:V→Fr→Mem→Option R):Option R:=
 match E.P.underlying t with
 |some (.map kt _)=>match x with
  |.om id=>match m id with
   |some (.map uR es)=>if uR=kt then fresh false site (.iter t es none) (eM id f) (bj (bB id m) id) fun f m _=>k (.it site) f m else none
   |_=>none
  |_=>none
 |_=>none
noncomputable def TW(x:V)(f:Fr)(m:Mem)(k:V→Fr→Mem→Option R):Option R:=
 match x with
 |.it id=>match m id with
  |some (.iter t es _)=>match E.P.underlying t with
   |some (.map kt et)=>if es.isEmpty=true then k (.aP [.pv (.bool false)]) f m else ri es.length fun i=>(es[i]?).bind fun e=>fV E kt e.1 fun a=>fV E et e.2 fun b=>k (.aP [.pv (.bool true),.pv a,.pv b]) f (al m id (.iter t (es.eraseIdx i) (some (a,b))))
   |_=>none
  |_=>none
 |_=>none
def MD(x:V)(m:Mem)(k:V→Mem→Option R):Option R:=
 match x with
 |.it id=>match m id with
  |some (.iter t es (some (a,b)))=>k (.aP [.pv a,.pv b]) (al m id (.iter t es none))
  |_=>none
 |_=>none
def ME:Op→Bool
 |.range .. =>true
 |.next .. =>true
 |.entry .. =>true
 |_=>false
def uv(g:FuncId):FuncId:=bif Nat.blt g CY then g else g-CY
def xZ(g:FuncId)(caps args:List V):List V:=bif Nat.blt g CY then args++caps else caps++args
noncomputable def cz(draw:Bool)(site:Nat)(o:Oper)(f:Fr)(m:Mem)(k:V→Fr→Mem→bq→Option R):Option R:=
 match o.op with
 |.move x=>k (bA E f x) f m []
 |.assign x=>match bA E f x with
  |.gy=>match E.P.underlying o.type with
   |some (.slice e)=>if 0<aQ E.P e then fresh draw site (.arr (aQ E.P e) e []) f m fun f m ft=>k (.os site) f m ft else none
   |_=>k .gy f m []
  |v=>k v f m []
 |.pick c a b=>match bA E f c with
  |.pv (.bool t)=>if t then k (bA E f a) f m []else k (bA E f b) f m []
  |_=>none
 |.alloc t=>match db E t with
  |some cs=>bif E.Ay site then(match E.P.underlying t,oY pvO cs with
   |some (.array n e),some ps=>if ax E.P e=true∧n*aQ E.P e=aQ E.P t∧0<aQ E.P e∧n≤16777216 then fresh draw site (.arr (aQ E.P e) e (gS (aQ E.P e) n (.agg ps))) f m fun f m ft=>k (.oe site 0 0) f m ft else none
   |_,_=>none)
   else if !draw&&acf E t then wG E site [t] 0 (uu cs.length cs f) m fun F m=>fresh false site (.box ((List.range cs.length).map F)) (vj cs.length F) m fun f m ft=>k (.op site 0) f m ft
   else fresh draw site (.box cs) f m fun f m ft=>k (.op site 0) f m ft
  |none=>none
 |.box t x=>match toCells (aQ E.P t) (bA E f x)with
  |some cs=>if !draw&&cs.any TV then(match C6 E.P 8 t with
   |some ts=>if ts.length=cs.length then wG E site ts 0 (uu cs.length cs f) m fun F m=>fresh false site (.box ((List.range cs.length).map F)) (vj cs.length F) m fun f m ft=>k (.op site 0) f m ft else none
   |none=>none)else fresh draw site (.box cs) f m fun f m ft=>k (.op site 0) f m ft
  |none=>none
 |.build t parts=>AF E t (parts.toList.map fun(i,x)=>(i,bA E f x)) fun v=>k v f m []
 |.buildSlice t len parts=>match E.P.underlying t with
  |some (.slice e)=>if Qn E e then(match C4 0 (parts.toList.map fun(i,x)=>(i,bA E f x))with
   |some cs=>if parts.size=len∧aQ E.P e=1∧len≤16777216∧(db E e).isSome=true then fresh draw site (.box cs) f m fun f m ft=>k (.os site) f m ft else none
   |none=>none)
   else if E.Ay (site+1000000000000000000000000000000)then(match eU cU (aQ E.P e) (ax E.P e) 0 (parts.toList.map fun(i,x)=>(i,bA E f x))with
   |some (es,_)=>if es.length=len∧0<aQ E.P e∧len*aQ E.P e≤16777216∧(db E e).isSome=true then k (.pv (.rs (aQ E.P e) es)) f m []else none
   |none=>none)
   else match eU (if draw then cU else m) (aQ E.P e) (ax E.P e) 0 (parts.toList.map fun(i,x)=>(i,bA E f x))with
   |some (es,m1)=>if es.length=len∧0<aQ E.P e∧len*aQ E.P e≤16777216∧(db E e).isSome=true then fresh draw site (.arr (aQ E.P e) e es) f (if draw then m else m1) fun f m ft=>k (.os site) f m ft else none
   |none=>none
  |_=>none
 |.load t a=>oM E (E.Ay site) t (bA E f a) m fun v ft=>k v f m ft
 |.store t a x=>rO E draw t (bA E f a) (bA E f x) m fun m ft=>k .top f m ft
 |.nilCheck x=>match bA E f x with
  |.pv (.rp cs)=>k (.pv (.rp cs)) f m []
  |.op id off=>k (.op id off) f m []
  |.oe id i off=>k (.oe id i off) f m []
  |.y7 id i off s j off2=>k (.y7 id i off s j off2) f m []
  |.fn g cs=>k (.fn g cs) f m []
  |.pv (.fn g cs)=>k (.pv (.fn g cs)) f m []
  |_=>none
 |.binOp op t x y _=>match bA E f x,bA E f y with
  |.pv (.rs _ es),.gy=>if draw then none else MA E op t es fun b=>k (.pv (.bool b)) f m [(true,0)]
  |a,b=>Jv E op t y a b fun p=>k (.pv p) f m []
 |.unOp op _ x=>xun op (bA E f x) fun p=>k (.pv p) f m []
 |.convert s d x=>AD E s d (bA E f x) m fun p ft=>k (.pv p) f m ft
 |.makeFunc (.func g) first caps=>bif Nat.blt g CY then(if first.isEmpty then k (.fn g (caps.toList.map (bA E f))) f m []else if caps.isEmpty then k (.fn (g+CY) (first.toList.map (bA E f))) f m []else none)else none
 |.makeMap t hint=>if G1 E f hint=true then match E.P.underlying t with
  |some (.map kt et)=>if(re E.P kt).isSome then(if E.Ay site then(match E.P.underlying et with
   |some (.slice e)=>fresh draw site (.eV kt e []) f m fun f m ft=>k (.om site) f m ft
   |_=>none)
   else fresh draw site (.map kt []) f m fun f m ft=>k (.om site) f m ft)else none
  |_=>none
  else none
 |.makeSlice t l c=>pI E draw site t (bA E f l) (bA E f c) f m k
 |.slice t x lo hi mx=>tt E t (bA E f x) (lo.map (bA E f)) (hi.map (bA E f)) (mx.map (bA E f)) m fun v ft=>k v f m ft
 |.fieldAddr s x j=>jd E s (bA E f x) j fun v=>k v f m []
 |.field s x j=>C3 E s (bA E f x) j fun v=>k v f m []
 |.indexAddr t x ix=>da E t (bA E f x) (bA E f ix) m fun v ft=>k v f m ft
 |.index t x ix=>AE E t (bA E f x) (bA E f ix) fun v=>k v f m []
 |.lookup t x ix ok=>if E.Ay site&& !ok then Jx E site t (bA E f x) (bA E f ix) m fun v m ft=>k v f m ft else tu E t (bA E f x) (bA E f ix) ok m fun v ft=>k v f m ft
 |.mapUpdate t x key v=>mT E draw t (bA E f x) (bA E f key) (bA E f v) m fun m ft=>k .top f m ft
 |.insert t x key v=>mT E draw t (bA E f x) (bA E f key) (bA E f v) m fun m ft=>k .top f m ft
 |.range t x=>if draw then none else MC E site t (bA E f x) f m fun v f m=>k v f m [(true,0)]
 |.next x s=>if draw||s then none else TW E (bA E f x) f m fun v f m=>k v f m [(true,0)]
 |.entry x=>if draw then none else MD (bA E f x) m fun v m=>k v f m [(true,0)]
 |.extract t i=>match bA E f t with
  |.aP vs=>match vs[i]? with
   |some v=>k v f m []
   |none=>none
  |_=>none
 |.call c=>match c.callee,c.args.toList.map (bA E f)with
  |.builtin .len,[x]=>match c.argTypes.toList with
   |[t]=>Jw E t x m fun v ft=>k v f m ft
   |_=>none
  |.builtin .append,[s,x]=>match c.argTypes.toList with
   |[t,t']=>zd E draw site t t' s x f m fun v f m=>k v f m [(true,0)]
   |_=>none
  |.builtin .copy,[d,x]=>match c.argTypes.toList with
   |t::_=>Jy E t d x m fun v m ft=>k v f m ft
   |_=>none
  |.builtin .clear,[x]=>match c.argTypes.toList with
   |t::_=>C5 E t x m fun v m ft=>k v f m ft
   |_=>none
  |.builtin .min,[a,b]=>Jz a b fun p=>k (.pv p) f m []
  |.builtin .max,[a,b]=>BA a b fun p=>k (.pv p) f m []
  |.builtin .max,[a,b,c,d]=>JA a b c d fun p=>k (.pv p) f m []
  |.value (.func g),args=>ur E draw site g args f m k
  |.value (.tmp t),args=>match bA E f (.tmp t)with
   |.fn g caps=>ur E draw site (uv g) (xZ g caps args) f m k
   |.pv (.fn g caps)=>ur E draw site (uv g) (xZ g (caps.map .pv) args) f m k
   |.yl id=>if draw then none else E.yl R E.fn.ntmps site id args f m fun v f m=>k v f m [(true,0)]
   |_=>none
  |_,_=>none
 |_=>none
noncomputable def JB(draw:Bool)(site:Nat)(o:Oper)(f:Fr)(m:Mem)(k:V→Fr→Mem→bq→Option R):Option R:=
 match(bif draw then none else bif E.Ay site then xY E site o f m else none)with
 |some sp=>YT E site sp f m k
 |none=>cz E draw site o f m k
def eW(o:Oper):Bool:=
 match o.op with
 |.move _|.assign _|.pick .. |.load .. |.nilCheck _|.binOp .. |.unOp .. |.convert .. |.slice .. |.fieldAddr .. |.field .. |.indexAddr .. |.index .. |.lookup .. |.extract .. |.build .. =>true
 |.call {callee:=.builtin .len,.. }|.call {callee:=.builtin .min,.. }|.call {callee:=.builtin .max,.. }=>true
 |.call {callee:=.value _,.. }=>true
 |_=>false
def ze:bq→Bool
 |[]=>true
 |(w,_)::r=> !w&&ze r
abbrev Log:=List (Nat×Bool×Nat)
def C7(o:Oper)(j:Nat):Bool:=o.after.toList.any fun e=>Region.binds .any e&&Nat.beq e.on j
mutual
def V.ids:V→List Nat
 |.agg cs=>JC cs
 |.aP cs=>JC cs
 |.fn _ cs=>JC cs
 |.os j=>[j]
 |.fq j _ _=>[j]
 |.oe j _ _=>[j]
 |.om j=>[j]
 |.vg j _ _=>[j]
 |.y7 j _ _ _ _ _=>[j]
 |.op j _=>[j]
 |.yl j=>[j]
 |.it j=>[j]
 |_=>[]
def JC:List V→List Nat
 |[]=>[]
 |v::r=>v.ids++JC r
end
def C8:Option bF→List Nat
 |some (.box cs)=>JC cs
 |_=>[]
def wH(n:Nat):Nat:=n+2037035976334486086268445688409378161051468393665936250636140449354381299763336706183397376
def G2(m m':Mem):bq→List Nat
 |[]=>[]
 |x::r=>C8 (m x.2)++C8 (m' x.2)++G2 m m' r
def CE(ops:Array Oper)(o:Oper)(f:Fr)(m m':Mem)(v:V)(ft:bq):List Nat:=JC ((o.looksAt ops).map f)++v.ids++G2 m m' ft
def cA(E:Env)(d:Option Nat):Nat:=match d with|some d=>E.fid*4096+d|none=>E.fid*4096+4095
def isApp(E:Env)(o:Oper):Bool:=E.Ay (cA E o.dst)||match o.op with|.call {callee:=.builtin .append,.. }=>true|_=>false
def tw(E:Env)(f:Fr)(m:Mem)(o:Oper):Option (Nat×bq):=
 match o.op with
 |.call c=>match c.callee,c.args.toList.map (bA E f),c.argTypes.toList with
  |.builtin .append,[.os id,x],[t,_]=>match E.P.underlying t with
   |some (.slice e)=>match ey m (aQ E.P e) x with
    |some (_,rd)=>if x.has id then none else some (id,rd)
    |none=>none
   |_=>none
  |_,_,_=>none
 |_=>none
def G3(E:Env)(f:Fr)(m:Mem)(o:Oper):Option (Kl×bq):=
 match(bif E.Ay (cA E o.dst)then xY E (cA E o.dst) o f m else none)with
 |some sp=>some (sp.info (cA E o.dst))
 |none=>match tw E f m o with
  |some (id,rd)=>some ([(true,id)],(true,id)::rd)
  |none=>none
def reach(ops:Array Oper):Nat→Oper→Nat→Bool
 |0,o,j=>C7 o j
 |n+1,o,j=>C7 o j||o.after.toList.any fun e=>Region.binds .any e&&match ops[e.on]? with|some p=>reach ops n p j|none=>false
def Qo(ops:Array Oper)(o:Oper)(w:Bool)(id:Nat):Log→Bool
 |[]=>true
 |(j,w',qW)::r=>(!(Nat.beq id qW)||(!w&& !w')||reach ops 4 o j)&&Qo ops o w id r
def AH(ops:Array Oper)(o:Oper)(lg:Log):bq→Bool
 |[]=>true
 |(w,id)::r=>Qo ops o w id lg&&AH ops o lg r
def CF(ops:Array Oper)(o:Oper)(id:Nat):Log→Bool
 |[]=>true
 |(j,_,n)::r=>(!(Nat.beq n (wH id))||reach ops 4 o j)&&CF ops o id r
def wI(ops:Array Oper):List (Nat×Oper)→Oper→Bool
 |[],_=>true
 |(j,p)::r,o=>(p.apart ops o||reach ops 4 o j)&&wI ops r o
def nq(ops:Array Oper):List (Nat×Oper)→List (Nat×Oper)→Bool
 |_,[]=>true
 |done,(i,o)::r=>o.after.toList.all (fun e=> !(Region.binds .any e)||Nat.blt e.on i)&&wI ops done o&&nq ops ((i,o)::done) r
def guardOf(o:Oper)(A:List (Nat×Bool)):Option (Nat×Bool):=
 match o.guard with
 |none=>none
 |some g=>if A.elem g then none else some g
def BB(A:List (Nat×Bool)):List (Nat×Oper)→List (Nat×Oper)×List (Nat×Oper)
 |[]=>([],[])
 |x::r=>match guardOf x.2 A with
  |some _=>let(a,b):=BB A r;(x::a,b)
  |none=>([],x::r)
def lM(f:Fr):List (Nat×Oper)→Fr
 |[]=>f
 |x::r=>lM (ir f x.2.dst .top) r
def vk(g:Nat×Bool):List Nat→List (Nat×Oper)→Bool
 |_,[]=>true
 |done,x::r=>(match x.2.guard with
  |some h=>(Nat.beq h.1 g.1&&(h.2==g.2))||done.elem h.1
  |none=>false)&&vk g (x.1::done) r
def blind(ops:Array Oper)(body:List (Nat×Oper))(o:Oper):Bool:=body.all fun y=>match y.2.dst with
  |some d=> !((o.looksAt ops).elem d)
  |none=>true
def JD:Bool→Bool→Bool
 |true,b=>b
 |false,b=> !b
def gV(f:Fr):List (Nat×Oper)→Fr
 |[]=>f
 |x::r=>gV (ir f x.2.dst (.aP [])) r
def xl:V→Option Bool
 |.pv (.bool b)=>some b
 |_=>none
end
def vl(E:Env)(o:Oper):Bool:=match o.dst with|some d=>Nat.blt d E.fn.ntmps|none=>true
def G4(E:Env)(g:FuncId):Bool:=match E.P.funcs[g]? with|some fn=>fn.resultTypes.toList.all (tv E)|none=>false
def W2(E:Env)(f:Fr)(body:List (Nat×Oper))(o:Oper):Bool:=
 eW o&&match o.op with
 |.call {callee:=.value (.func g),.. }=>(E.ctx g).isSome&&G4 E g
 |.call {callee:=.value (.tmp t),.. }=>match(match body.find? (fun x=>x.2.dst==some t)with
  |some (_,p)=>(match p.op with
   |.move y=>bA E f y
   |.assign y=>bA E f y
   |_=>.top)
  |none=>bA E f (.tmp t))with
  |.fn g _=>(E.ctx (uv g)).isSome&&G4 E (uv g)
  |.pv (.fn g _)=>(E.ctx (uv g)).isSome&&G4 E (uv g)
  |.yl _=>false
  |_=>true
 |_=>true
noncomputable def ca(E:Env)(ops:Array Oper)(mode:Nat):(fuel:Nat)→(R:Type)→List (Nat×Bool)→List (Nat×Oper)→Fr→Mem→Log→(Fr→Mem→Option R)→Option R
 |0,_,_,_,_,_,_,_=>none
 |_+1,_,_,[],f,m,_,k=>k f m
 |fuel+1,R,A,(i,o)::rest,f,m,lg,k=>
  match guardOf o A with
  |none=>
   if vl E o then
    match(bif Nat.beq mode 2 then G3 E f m o else none)with
    |some (kl,ft)=>
     if AH ops o lg ft&&kl.all (fun x=>CF ops o x.2 lg)&&rest.all (fun x=>reach ops 4 x.2 i)then JB E false (cA E o.dst) o f m fun v f1 m1 _=>ca E ops mode fuel R A rest (ir f1 o.dst v) m1 (ft.map (fun x=>(i,x))++lg) k
     else none
    |none=>JB E (Nat.beq mode 1||Nat.beq mode 2) (cA E o.dst) o f m fun v f1 m1 ft=>
      if Nat.beq mode 2 then(if AH ops o lg ft then ca E ops mode fuel R A rest (ir f1 o.dst v) m1 ((bif ops.toList.any (isApp E)then(CE ops o f m m1 v ft).map (fun n=>(i,false,wH n))else[])++(ft.map (fun x=>(i,x))++lg)) k else none)
      else if Nat.beq mode 0 then ca E ops mode fuel R A rest (ir f1 o.dst v) m1 lg k
      else if ze ft then ca E ops mode fuel R A rest (ir f1 o.dst v) m1 lg k
      else none
   else none
  |some (j,BC)=>
   match((ops[j]?).bind (·.dst))with
   |some tj=>match bA E f (.tmp tj)with
    |.pv (.bool b)=>
     match BB A ((i,o)::rest)with
     |(body,JE)=>
     if Nat.beq mode 0&& !(body.all fun x=>W2 E f body x.2)then
      (if(body.all fun x=>vl E x.2)&&vk (j,BC) [] body&&((i,o)::rest).all (fun x=> !(x.2.dst==some tj))then
       bif JD BC b then ca E ops mode fuel R ((j,BC)::A) ((i,o)::rest) (fT f tj (.pv (.bool BC))) m lg k
       else ca E ops mode fuel R A JE (gV (fT f tj (.pv (.bool !BC))) body) m lg k
      else none)
     else match JE with
     |(_,p)::lN=>
      match p.op with
      |.pick (.tmp c) x y=>
       if Nat.beq c tj&&(guardOf p A).isNone&&body.all (fun x=>eW x.2&&vl E x.2&& !(x.2.dst==some tj))&&vk (j,BC) [] body&&lN.all (fun x=>blind ops body x.2)&&vl E p&& !(Nat.beq mode 2)then
        (match BC with
         |true=>bif b then ca E ops (bif Nat.beq mode 0 then 3 else mode) fuel Bool ((j,BC)::A) body f m lg (fun f _=>xl (bA E f x))else xl (bA E (lM f body) y)
         |false=>bif b then xl (bA E (lM f body) x)else ca E ops (bif Nat.beq mode 0 then 3 else mode) fuel Bool ((j,BC)::A) body f m lg (fun f _=>xl (bA E f y))).bind fun r=>
        ca E ops mode fuel R A lN (ir (lM f body) p.dst (.pv (.bool r))) m lg k
       else none
      |_=>none
     |[]=>none
    |_=>none
   |none=>none
inductive Ex where
 |normal
 |exit (id:Nat)
 |ret
def JF{R:Type}(body:Fr→Mem→(Fr→Mem→Option R)→Option R):Nat→Fr→Mem→Option R
 |0,_,_=>none
 |n+1,f,m=>body f m (JF body n)
def wJ:Code→Nat
 |.region id _ _=>id
 |.seq a _=>wJ a
 |.cond _ a _=>wJ a
 |.block _ b=>wJ b
 |.loop b=>wJ b
 |.scope b=>wJ b
 |_=>0
def Qp:List Sh→Type→Type
 |[],T=>T
 |.raw::r,T=>PV×Qp r T
 |.int _::r,T=>Int×Qp r T
 |.bool::r,T=>Bool×Qp r T
 |.str::r,T=>Bytes×Qp r T
 |.rs _::r,T=>List PV×Qp r T
 |.rp _::r,T=>PV×Qp r T
 |.fs _::r,T=>List PV×Qp r T
 |.row _ _::r,T=>Int×Qp r T
 |.own _::r,T=>Qp r T
def Jl:List (Nat×TQ)→Type
 |[]=>Unit
 |(_,.box cs)::r=>Qp cs (Jl r)
 |(_,.arr _ _)::r=>List PV×Jl r
 |(_,.pt _ _)::r=>List PV×Jl r
 |(_,.map _)::r=>List (PV×PV)×Jl r
 |(_,.nest _ _)::r=>List PV×Jl r
 |(_,.eV _ _)::r=>List (PV×PV)×Jl r
 |(_,.loop)::r=>Jl r
 |(_,.busy)::r=>Jl r
 |(_,.iter _)::r=>List (PV×PV)×Jl r
def dM.ja(T:dM):List Sh:=T.an.map Prod.snd
abbrev dM.ty(T:dM):Type:=Qp T.ja (Jl T.bk)
mutual
def V.same:V→V→Bool
 |.op i o,.op j p=>Nat.beq i j&&Nat.beq o p
 |.oe i a o,.oe j b p=>Nat.beq i j&&Nat.beq a b&&Nat.beq o p
 |.os i,.os j=>Nat.beq i j
 |.om i,.om j=>Nat.beq i j
 |.yl i,.yl j=>Nat.beq i j
 |.it i,.it j=>Nat.beq i j
 |.gy,.gy=>true
 |.pv .oW,.pv .oW=>true
 |.pv .sA,.pv .sA=>true
 |.pv (.int q x),.pv (.int q' y)=>decide (q=q')&&decide (x=y)
 |.fn f cs,.fn g ds=>Nat.beq f g&&FH cs ds
 |_,_=>false
def FH:List V→List V→Bool
 |[],[]=>true
 |a::as,b::bs=>a.same b&&FH as bs
 |_,_=>false
end
section
variable {R:Type}
def jb{T:Type}:(ja:List Sh)→List V→T→(Qp ja T→Option R)→Option R
 |[],[],t,k=>k t
 |.int q::ja,.pv (.int q' n)::vs,t,k=>if q'=q then jb ja vs t (fun r=>k (n,r))else none
 |.raw::ja,.pv p::vs,t,k=>jb ja vs t (fun r=>k (p,r))
 |.bool::ja,.pv (.bool b)::vs,t,k=>jb ja vs t (fun r=>k (b,r))
 |.str::ja,.pv (.str s)::vs,t,k=>jb ja vs t (fun r=>k (s,r))
 |.rs sz::ja,.pv (.rs E1 es)::vs,t,k=>if E1=sz then jb ja vs t (fun r=>k (es,r))else none
 |.rp n::ja,.pv (.rp cs)::vs,t,k=>if cs.length=n then jb ja vs t (fun r=>k (.agg cs,r))else none
 |.fs s::ja,.pv p::vs,t,k=>(W0 s p).bind fun ls=>jb ja vs t (fun r=>k (ls,r))
 |.row id off::ja,.vg qW i rP::vs,t,k=>if qW=id∧rP=off then jb ja vs t (fun r=>k ((i:Int),r))else none
 |.own v::ja,u::vs,t,k=>if v.same u then jb ja vs t k else none
 |_,_,_,_=>none
def sE(m:Mem):(bs:List (Nat×TQ))→(Jl bs→Option R)→Option R
 |[],k=>k ()
 |(id,.box cs)::r,k=>match m id with
  |some (.box vs)=>sE m r fun t=>jb (T:=Jl r) cs vs t k
  |_=>none
 |(id,.arr sz et)::r,k=>match m id with
  |some (.arr E1 E2 es)=>if E1=sz∧E2=et then sE m r fun t=>k (es,t)else none
  |_=>none
 |(id,.pt sz et)::r,k=>match m id with
  |some (.pt E1 E2 es)=>if E1=sz∧E2=et then sE m r fun t=>k (es,t)else none
  |_=>none
 |(id,.map kt)::r,k=>match m id with
  |some (.map uR es)=>if uR=kt then sE m r fun t=>k (es,t)else none
  |_=>none
 |(id,.nest sz et)::r,k=>match m id with
  |some (.nest E1 E2 es)=>if E1=sz∧E2=et then sE m r fun t=>k (es,t)else none
  |_=>none
 |(id,.eV kt e)::r,k=>match m id with
  |some (.eV uR e' es)=>if uR=kt∧e'=e then sE m r fun t=>k (es,t)else none
  |_=>none
 |(id,.loop)::r,k=>match m id with
  |some (.loop .ready)=>sE m r k
  |_=>none
 |(id,.busy)::r,k=>match m id with
  |some (.loop .busy)=>sE m r k
  |_=>none
 |(id,.iter t)::r,k=>match m id with
  |some (.iter t' es none)=>if t'=t then sE m r fun u=>k (es,u)else none
  |_=>none
def Sh.within(M:List Nat):Sh→Bool
 |.own v=>v.within M
 |.row id _=>M.elem id
 |_=>true
def TQ.within(M:List Nat):TQ→Bool
 |.box cs=>cs.all (·.within M)
 |_=>true
def dM.ok(T:dM):Bool:=T.an.all (fun x=>x.2.within (T.bk.map (·.1)))&&T.bk.all (fun x=>x.2.within (T.bk.map (·.1)))
def C9:List Sh→List V→Bool
 |[],[]=>true
 |.raw::ja,.pv _::vs=>C9 ja vs
 |.int q::ja,.pv (.int q' _)::vs=>decide (q'=q)&&C9 ja vs
 |.bool::ja,.pv (.bool _)::vs=>C9 ja vs
 |.str::ja,.pv (.str _)::vs=>C9 ja vs
 |.rs sz::ja,.pv (.rs E1 _)::vs=>Nat.beq E1 sz&&C9 ja vs
 |.rp n::ja,.pv (.rp cs)::vs=>Nat.beq cs.length n&&C9 ja vs
 |.fs s::ja,.pv p::vs=>(W0 s p).isSome&&C9 ja vs
 |.row id off::ja,.vg qW _ rP::vs=>Nat.beq qW id&&Nat.beq rP off&&C9 ja vs
 |.own v::ja,u::vs=>v.same u&&C9 ja vs
 |_,_=>false
def Fb(m:Mem):List (Nat×TQ)→Bool
 |[]=>true
 |(id,.box cs)::r=>(match m id with|some (.box vs)=>C9 cs vs|_=>false)&&Fb m r
 |(id,.arr sz _)::r=>(match m id with|some (.arr E1 _ _)=>Nat.beq E1 sz|_=>false)&&Fb m r
 |(id,.pt sz _)::r=>(match m id with|some (.pt E1 _ _)=>Nat.beq E1 sz|_=>false)&&Fb m r
 |(id,.map _)::r=>(match m id with|some (.map _ _)=>true|_=>false)&&Fb m r
 |(id,.nest sz _)::r=>(match m id with|some (.nest E1 _ _)=>Nat.beq E1 sz|_=>false)&&Fb m r
 |(id,.eV _ _)::r=>(match m id with|some (.eV _ _ _)=>true|_=>false)&&Fb m r
 |(id,.loop)::r=>(match m id with|some (.loop .ready)=>true|_=>false)&&Fb m r
 |(id,.busy)::r=>(match m id with|some (.loop .busy)=>true|_=>false)&&Fb m r
 |(id,.iter _)::r=>(match m id with|some (.iter _ _ none)=>true|_=>false)&&Fb m r
def fits(f:Fr)(m:Mem)(T:dM):Bool:=Fb m T.bk&&C9 T.ja (T.an.map fun(x:Nat×Sh)=>f x.1)
def enc(T:dM)(f:Fr)(m:Mem)(k:T.ty→Option R):Option R:=if T.ok then sE m T.bk fun t=>jb (T:=Jl T.bk) T.ja (T.an.map fun(x:Nat×Sh)=>f x.1) t k else none
end
def qX{T:Type}:(ja:List Sh)→Qp ja T→List V×T
 |[],t=>([],t)
 |.int q::ja,x=>let r:=qX ja x.2;(.pv (.int q x.1)::r.1,r.2)
 |.raw::ja,x=>let r:=qX ja x.2;(.pv x.1::r.1,r.2)
 |.bool::ja,x=>let r:=qX ja x.2;(.pv (.bool x.1)::r.1,r.2)
 |.str::ja,x=>let r:=qX ja x.2;(.pv (.str x.1)::r.1,r.2)
 |.rs sz::ja,x=>let r:=qX ja x.2;(.pv (.rs sz x.1)::r.1,r.2)
 |.rp n::ja,x=>let r:=qX ja x.2;(.pv (.rp (aJ n x.1))::r.1,r.2)
 |.fs s::ja,x=>let r:=qX ja x.2;(.pv (GY s ((List.range s.n).map fun j=>x.1.getD j .bad)).1::r.1,r.2)
 |.row id off::ja,x=>let r:=qX ja x.2;(.vg id x.1.toNat off::r.1,r.2)
 |.own v::ja,x=>let r:=qX (T:=T) ja x;(v::r.1,r.2)
def dn:(bs:List (Nat×TQ))→Jl bs→List (Nat×Option bF)
 |[],_=>[]
 |(id,.box cs)::r,x=>let y:=qX (T:=Jl r) cs x;(id,some (.box y.1))::dn r y.2
 |(id,.arr sz et)::r,x=>(id,some (.arr sz et x.1))::dn r x.2
 |(id,.pt sz et)::r,x=>(id,some (.pt sz et x.1))::dn r x.2
 |(id,.map kt)::r,x=>(id,some (.map kt x.1))::dn r x.2
 |(id,.nest sz et)::r,x=>(id,some (.nest sz et x.1))::dn r x.2
 |(id,.eV kt e)::r,x=>(id,some (.eV kt e x.1))::dn r x.2
 |(id,.loop)::r,x=>(id,some (.loop .ready))::dn (r:List (Nat×TQ)) x
 |(id,.busy)::r,x=>(id,some (.loop .busy))::dn (r:List (Nat×TQ)) x
 |(id,.iter t)::r,x=>(id,some (.iter t x.1 none))::dn r x.2
def pJ:List (Nat×Sh)→List V→List (Nat×V)
 |(t,_)::r,v::vs=>(t,v)::pJ r vs
 |_,_=>[]
def MF(T:dM)(x:T.ty):Fr:=Mz (pJ T.an (qX (T:=Jl T.bk) T.ja x).1)
def Da(T:dM)(x:T.ty):Mem:=CX (dn T.bk (qX (T:=Jl T.bk) T.ja x).2)
def BD{A:Type}:List (Nat×Nat)→Fr→Mem→(Fr→Mem→A)→A
 |[],f,m,k=>k f m
 |(t,sz)::r,f,m,k=>match f t with
  |.os id=>match m id with
   |some (.arr s et es)=>BD r (fT f t (.pv (.rs s es))) (al m id (.pt s et es)) k
   |some (.pt s _ es)=>BD r (fT f t (.pv (.rs s es))) m k
   |_=>BD r f m k
  |.gy=>BD r (fT f t (.pv (.rs sz []))) m k
  |_=>BD r f m k
def FI{A:Type}:List (Nat×Nat×Nat)→Mem→(Mem→A)→A
 |[],m,k=>k m
 |(id,j,sz)::r,m,k=>match m id with
  |some (.box cs)=>match cs[j]? with
   |some .gy=>FI r (al m id (.box (cs.set j (.pv (.rs sz []))))) k
   |_=>FI r m k
  |_=>FI r m k
def BE{A:Type}(P:Program):List (Nat×Nat×Nat×TypeId)→Mem→(Mem→A)→A
 |[],m,k=>k m
 |(id,j,TX,et)::r,m,k=>match m id with
  |some (.box cs)=>match cs[j]? with
   |some .gy=>match m TX with
    |none=>if 0<aQ P et then BE P r (al (al m TX (.arr (aQ P et) et [])) id (.box (cs.set j (.os TX)))) k else BE P r m k
    |some _=>BE P r m k
   |_=>BE P r m k
  |_=>BE P r m k
def JG{A:Type}:List Nat→Mem→(Mem→A)→A
 |[],m,k=>k m
 |id::r,m,k=>match m id with
  |some (.arr s et es)=>JG r (al m id (.nest s et es)) k
  |_=>JG r m k
def BF{A:Type}:List (Nat×Nat)→Fr→Mem→(Fr→Mem→A)→A
 |[],f,m,k=>k f m
 |(id,j)::r,f,m,k=>match m id with
  |some (.box cs)=>match cs[j]? with
   |some (.fq a 0 len)=>match m a with
    |some (.arr s et es)=>if Nat.beq a id then BF r f m k else BF r (eM a f) (al (al (bj (bB a m) a) a (.arr s et (es.take len))) id (.box ((cs.map (rf a)).set j (.os a)))) k
    |_=>BF r f m k
   |_=>BF r f m k
  |_=>BF r f m k
def FJ{A:Type}(P:Program)(T:dM)(f:Fr)(m:Mem)(k:Fr→Mem→A):A:=BF T.ct f m fun f m=>BE P T.bo m fun m=>FI T.bz m fun m=>JG T.nz m fun m=>BD T.fz f m k
variable{R:Type}
def Ex.JH(k1:Fr→Mem→Option R)(k:Ex→Fr→Mem→Option R):Ex→Fr→Mem→Option R
 |.normal,f,m=>k1 f m
 |e,f,m=>k e f m
def Ex.TY(id:Nat)(k:Ex→Fr→Mem→Option R):Ex→Fr→Mem→Option R
 |.exit j,f,m=>if j=id then k .normal f m else k (.exit j) f m
 |e,f,m=>k e f m
def Ex.jmp:Ex→Option Jmp
 |.normal=>none
 |.exit id=>some (.exit id)
 |.ret=>some .ret
def Jmp.ex:Jmp→Ex
 |.ret=>.ret
 |.exit id=>.exit id
def Qq(n:Nat)(g f:Fr):Fr:=fun t=>bif Nat.blt t n then g t else f (t-n)
def Db:List Nat→List V→Fr→Fr
 |p::ps,v::vs,f=>Db ps vs (fT f p v)
 |_,_,f=>f
def roundOf(as b:Fr→Mem→(Ex→Fr→Mem→Option R)→Option R)(lid n:Nat)(ps:List Nat)(nt:Nat)(args:List V)(F:Fr)(m:Mem)(k:V→Fr→Mem→Option R):Option R:=
 match m lid with
 |some (.loop .ready)=>if args.length=ps.length then
  as (Qq n (Db ps args (vj nt F)) F) m fun e f m=>match e,m lid with
   |.normal,some (.loop .ready)=>b f (al m lid (.loop .busy)) fun e f m=>match m lid with
    |some (.loop .busy)=>match e.jmp with
     |none=>k (.pv (.bool true)) (vj n f) (al m lid (.loop .ready))
     |some j=>k (.pv (.bool false)) (vj n f) (al m lid (.loop (.done j)))
    |_=>none
   |_,_=>none
  else none
 |_=>none
def ZZ:V→Option (FuncId×List V)
 |.fn g caps=>bif Nat.blt g CY then some (g,caps)else none
 |.pv (.fn g caps)=>bif Nat.blt g CY then some (g,caps.map .pv)else none
 |_=>none
def acg(E:Env)(o:Oper):Bool:=match o.op with
 |.call c=>match c.callee with
  |.value (.func g)=>(E.ctx g).isNone&&(E.own g).isNone
  |_=>false
 |_=>false
def ach(E:Env)(o:Oper):Bool:=match o.op with
 |.call c=>match c.callee with
  |.value (.func g)=>(E.ctx g).isNone&&(E.own g).isSome
  |_=>false
 |_=>false
def W3(E:Env)(ops:Array Oper):Option Nat:=ops.toList.findIdx? (acg E)
def TZ(ops:Array Oper)(p:Nat):Bool:=match ops[p]? with
 |none=>false
 |some o=>o.guard.isNone&&o.after.toList.all (fun e=> !(Region.binds .any e)||Nat.blt e.on p)&&((List.range ops.size).zip ops.toList).all fun x=>bif Nat.blt x.1 p then reach ops 8 o x.1 else Nat.beq x.1 p||reach ops 8 x.2 p
noncomputable def fe:(E:Env)→{R:Type}→Code→Fr→Mem→(Ex→Fr→Mem→Option R)→Option R
 |E,_,.skip,f,m,k=>k .normal f m
 |E,R,.region _ ops draw,f,m,k=>
  if draw then
   match W3 E ops with
   |some p=>if TZ ops p&&nq ops [] (((List.range ops.size).zip ops.toList).take p)&&nq ops [] (((List.range ops.size).zip ops.toList).drop (p+1))then
     ca E ops 2 (ops.size+1) R [] (((List.range ops.size).zip ops.toList).take p) f m [] fun f m=>
     ca E ops 0 3 R [] ((((List.range ops.size).zip ops.toList).drop p).take 1) f m [] fun f m=>
     ca E ops 2 (ops.size+1) R [] (((List.range ops.size).zip ops.toList).drop (p+1)) f m [] fun f m=>k .normal f m
    else none
   |none=>
   (if nq ops [] ((List.range ops.size).zip ops.toList)then
    (if ops.toList.all (fun o=>eW o&& !ach E o)then ca E ops 1 (ops.size+1) R [] ((List.range ops.size).zip ops.toList) f m [] fun f m=>k .normal f m
    else ca E ops 2 (ops.size+1) R [] ((List.range ops.size).zip ops.toList) f m [] fun f m=>k .normal f m)
   else none)
  else ca E ops 0 (ops.size+ops.size+1) R [] ((List.range ops.size).zip ops.toList) f m [] fun f m=>k .normal f m
 |E,R,.seq a b,f,m,k=>fe E a f m (Ex.JH (fun f m=>fe E b f m k) k)
 |E,R,.cond c a b,f,m,k=>match c,bA E f c with
  |.tmp x,.pv (.bool t)=>if t then fe E a (fT f x (.pv (.bool true))) m k else fe E b (fT f x (.pv (.bool false))) m k
  |_,_=>none
 |E,R,.block id b,f,m,k=>fe E b f m (Ex.TY id k)
 |E,R,.loop b,f,m,k=>match(E.hint E.fid (wJ b)).find? (fun T=>FJ E.P T f m fun f m=>fits f m T)with
  |some T=>FJ E.P T f m fun f m=>enc T f m (E.lp.run fun s rec=>fe E b (MF T s) (Da T s) (Ex.JH (fun f m=>FJ E.P T f m fun f m=>enc T f m rec) k))
  |none=>JF (fun f m rec=>fe E b f m (Ex.JH rec k)) E.u f m
 |E,R,.exit id,f,m,k=>k (.exit id) f m
 |E,R,.ret,f,m,k=>k .ret f m
 |E,R,.label _,f,m,k=>k .normal f m
 |E,R,.scope b,f,m,k=>fe E b f m k
 |E,R,.rangeFunc g ps as b,f,m,k=>if E.ZY then none else match ps.toList with
  |p0::_=>fresh true (cA E (some p0)) (.loop .ready) f m fun f m _=>match ZZ (bA E f g)with
   |some (gid,caps)=>E.ZX R gid (cA E (some p0)*4096+gid) (fun _ nt site id args F m k=>bif Nat.beq id (cA E (some p0))then
     roundOf (fe {E with fid:=site*4096+E.fid%4096,yl:=Ax,ZY:=true} as) (fe {E with fid:=site*4096+E.fid%4096,yl:=Ax,ZY:=true} b) (cA E (some p0)) E.fn.ntmps ps.toList nt args F m k
     else none)
    (.yl (cA E (some p0))::caps) f m fun _ f m=>match m (cA E (some p0))with
     |some (.loop .ready)=>k .normal (eM (cA E (some p0)) f) (bj (bB (cA E (some p0)) m) (cA E (some p0)))
     |some (.loop (.done j))=>k j.ex (eM (cA E (some p0)) f) (bj (bB (cA E (some p0)) m) (cA E (some p0)))
     |_=>none
   |_=>none
  |[]=>none
 |_,_,_,_,_,_=>none
def zf(E:Env){R:Type}(f:Fr)(m:Mem):List ResultVar→(List V→Option R)→Option R
 |[],k=>k []
 |.tmp t::rs,k=>zf E f m rs fun vs=>k (bA E f (.tmp t)::vs)
 |.cell a t::rs,k=>oM E false t (bA E f (.tmp a)) m fun v _=>zf E f m rs fun vs=>k (v::vs)
def T0(E:Env)(rs:List ResultVar)(f:Fr)(m:Mem):Option PV:=zf E f m rs fun vs=>match vs with
  |[v]=>jK m ev v
  |vs=>(oY (jK m ev) vs).bind fun ps=>some (.aP ps)
section
variable {R:Type} (E:Env)
def G5(t:TypeId)(p:PV)(k:PV→Option R):Option R:=
 match E.P.underlying t with
 |some (.int _)=>fV E t p k
 |some .bool=>fV E t p k
 |some .string=>fV E t p k
 |some (.slice _)=>fV E t p k
 |some (.map _ _)=>fV E t p k
 |_=>k p
def oZ:List TypeId→List PV→(List PV→Option R)→Option R
 |t::ts,p::ps,k=>G5 E t p fun q=>oZ ts ps fun qs=>k (q::qs)
 |_,ps,k=>k ps
def CG(n:Nat)(p:PV)(a:Option R)(b:PV→Option R):Option R:=
 match p with
 |.oW=>a
 |.rp cs=>if n≤cs.length then b (.agg cs)else none
 |_=>none
def T2(t:TypeId)(p:PV)(k:PV→Option R):Option R:=
 match E.P.underlying t with
 |some (.struct _)=>(asAgg (aQ E.P t) p).bind fun _=>match C6 E.P 8 t with
  |some ts=>oZ E ts (aJ (aQ E.P t) p) fun cs=>k (.agg cs)
  |none=>none
 |some (.array _ _)=>(asAgg (aQ E.P t) p).bind fun _=>match C6 E.P 8 t with
  |some ts=>oZ E ts (aJ (aQ E.P t) p) fun cs=>k (.agg cs)
  |none=>none
 |some (.pointer e)=>CG (aQ E.P e) p (k .oW) fun q=>match C6 E.P 8 e with
  |some ts=>oZ E ts (aJ (aQ E.P e) q) fun cs=>k (.rp cs)
  |none=>none
 |_=>G5 E t p k
def yb:List TypeId→List PV→(List PV→Option R)→Option R
 |t::ts,p::ps,k=>T2 E t p fun q=>yb ts ps fun qs=>k (q::qs)
 |_,ps,k=>k ps
end
def Dc(args:List V):Fr:=fun t=>args.getD t .top
noncomputable def CH(E:Env)(args:List V)(f:Fr)(m:Mem)(k:V→Fr→Mem→Option R):Option R:=
 match E.fn.body with
 |some c=>if args.length≤E.fn.ntmps then fe E c (uu E.fn.ntmps args f) m (fun e f m=>match e with
  |.exit _=>none
  |_=>zf E f m E.fn.results.toList fun vs=>match vs with
   |[v]=>k v (vj E.fn.ntmps f) m
   |vs=>k (.aP vs) (vj E.fn.ntmps f) m)else none
 |none=>none
def Z0(E:Env)(f:Fr)(m:Mem):Option PV:=
 match E.fn.resultTypes.toList with
 |[t]=>match E.P.underlying t with
  |some (.slice e)=>zf E f m E.fn.results.toList fun vs=>match vs with
   |[.os id]=>match m id with
    |some (.arr sz et es)=>if sz=aQ E.P e∧et=e then some (.rs sz es)else none
    |_=>none
   |[.fq id 0 len]=>match m id with
    |some (.arr sz et es)=>if sz=aQ E.P e∧et=e then some (.rs sz (es.take len))else none
    |_=>none
   |_=>none
  |_=>none
 |_=>none
noncomputable def G6(E:Env)(args:List PV):Option PV:=
 match E.fn.body with
 |some c=>if args.length≤E.fn.ntmps then yb E E.fn.params.toList args fun vs=>fe E c (Dc (vs.map .pv)) (fun _=>none) (fun e f m=>match e with
  |.exit _=>none
  |_=>Z0 E f m)else none
 |none=>none
noncomputable def ab(E:Env)(args:List PV):Option PV:=
 match E.fn.body with
 |some c=>if args.length≤E.fn.ntmps then yb E E.fn.params.toList args fun vs=>fe E c (Dc (vs.map .pv)) (fun _=>none) (fun e f m=>match e with
  |.normal=>T0 E E.fn.results.toList f m
  |.ret=>T0 E E.fn.results.toList f m
  |.exit _=>none)else none
 |none=>none
end Go.Ab
