import Derived.Test.YteddgaennnfacaaGreatAbDefs
import Derived.Deep.Quiet
set_option linter.all false
namespace Go.Ab
inductive FS where
 |raw
 |fn (g:FuncId) (caps:List FS)
 |ptr (cells:List FS)
mutual
def rdL:FS→PV→Option (List PV)
 |.raw,p=>some [p]
 |.fn g cs,.fn g' qs=>if g'=g then Ni cs qs else none
 |.ptr cs,.rp qs=>Ni cs qs
 |_,_=>none
def Ni:List FS→List PV→Option (List PV)
 |[],[]=>some []
 |s::ss,p::ps=>(rdL s p).bind fun a=>(Ni ss ps).bind fun b=>some (a++b)
 |_,_=>none
end
mutual
def LH:FS→List PV→PV×List PV
 |.raw,[]=>(.bad,[])
 |.raw,p::r=>(p,r)
 |.fn g cs,l=>(.fn g (F4 cs l).1,(F4 cs l).2)
 |.ptr cs,l=>(.rp (F4 cs l).1,(F4 cs l).2)
def F4:List FS→List PV→List PV×List PV
 |[],l=>([],l)
 |s::ss,l=>((LH s l).1::(F4 ss (LH s l).2).1,(F4 ss (LH s l).2).2)
end
mutual
def FS.n:FS→Nat
 |.raw=>1
 |.fn _ cs=>nFs cs
 |.ptr cs=>nFs cs
def nFs:List FS→Nat
 |[]=>0
 |s::ss=>s.n+nFs ss
end
inductive Sh where
 |raw
 |int (q:IntKind)
 |bool
 |str
 |rs (sz:Nat)
 |rp (n:Nat)
 |fs (s:FS)
 |row (id off:Nat)
 |own (v:V)
inductive G8 where
 |box (cs:List Sh)
 |arr (sz:Nat) (et:TypeId)
 |tC (sz:Nat) (et:TypeId)
 |map (kt:TypeId)
 |nest (sz:Nat) (et:TypeId)
 |fu (kt e:TypeId)
 |loop
 |busy
 |iter (t:TypeId)
structure Kj where
 bY:List (Nat×Sh)
 CE:List (Nat×G8)
 fz:List (Nat×Nat):=[]
 bz:List (Nat×Nat×Nat):=[]
 bo:List (Nat×Nat×Nat×TypeId):=[]
 nz:List Nat:=[]
 ct:List (Nat×Nat):=[]
structure bj where
 run:{S R:Type}→(S→(S→Option R)→Option R)→S→Option R
 room:Nat→Bool
 sS:∀n,room n=true→(n:Int)≤IntKind.i64.max
def dQ{S R:Type}(body:S→(S→Option R)→Option R):Nat→S→Option R
 |0,_=>none
 |n+1,s=>body s (dQ body n)
abbrev YL:=(R:Type)→Nat→Nat→Nat→List V→Fr→Mem→(V→Fr→Mem→Option R)→Option R
def EV:YL:=fun _ _ _ _ _ _ _ _=>none
structure Env where
 P:Program
 ctx:FuncId→Option (List PV→Option PV)
 aM:Nat→Option (List PV)
 fid:FuncId
 fn:Func
 lp:bj
 hint:Nat→Nat→List Kj
 u:Nat
 own:FuncId→Option (List PV→Option PV)
 inl:(R:Type)→FuncId→Nat→List V→Fr→Mem→(V→Fr→Mem→Option R)→Option R
 rng:(R:Type)→FuncId→Nat→YL→List V→Fr→Mem→(V→Fr→Mem→Option R)→Option R
 yl:YL
 rdb:Bool:=false
 fnr:FuncId→Option FS:=fun _=>none
 EW:Nat→Bool:=fun _=>false
section
variable {R:Type} (E:Env)
def cM(kt:TypeId)(p:PV)(a:Option R)(b:List PV→List PV→Option R):Option R:=
 match p with
 |.rr=>a
 |.rm zR ks vs=>if zR=kt then b ks vs else none
 |_=>none
def iD(t:TypeId)(p:PV)(k:PV→Option R):Option R:=
 match E.P.underlying t with
 |some (.int q)=>(asInt q p).bind fun n=>k (.int q n)
 |some .bool=>(asBool p).bind fun b=>k (.bool b)
 |some .string=>(aT p).bind fun s=>k (.str s)
 |some (.slice e)=>(ah (aV E.P e) p).bind fun es=>k (.rs (aV E.P e) es)
 |some (.struct _)=>(asAgg (aV E.P t) p).bind fun _=>k (.agg (aQ (aV E.P t) p))
 |some (.array _ _)=>(asAgg (aV E.P t) p).bind fun _=>k (.agg (aQ (aV E.P t) p))
 |some (.pointer _)=>match p with
  |.tJ=>k p
  |.rp _=>k p
  |_=>none
 |some (.map kt _)=>cM kt p (k .rr) fun ks vs=>k (.rm kt ks vs)
 |some (.func _ _ _)=>match p with
  |.GY=>k .GY
  |.fn g cs=>k (.fn g cs)
  |_=>none
 |some (.interface _)=>(R7 p).bind fun b=>k (.ifc b)
 |_=>none
def DM(t:TypeId)(v:V)(k:V→Option R):Option R:=
 match v with
 |.pv p=>iD E t p fun p=>k (.pv p)
 |.top=>none
 |v=>if(E.P.underlying t).isSome then k v else none
def F5:List TypeId→List PV→(List V→Option R)→Option R
 |[],[],k=>k []
 |t::ts,p::ps,k=>iD E t p fun q=>F5 ts ps fun vs=>k (.pv q::vs)
 |_,_,_=>none
def F6(ts:List TypeId)(r:PV)(k:V→Option R):Option R:=
 match ts with
 |[]=>(bR 0 r).bind fun _=>k (.aG [])
 |[t]=>iD E t r fun q=>k (.pv q)
 |ts=>(bR ts.length r).bind fun vs=>F5 E ts ((List.range ts.length).map fun j=>vs.getD j .bad) fun us=>k (.aG us)
def EX(fid:FuncId)(ts:List TypeId)(r:PV)(k:V→Option R):Option R:=
 match E.fnr fid with
 |some s=>(rdL s r).bind fun ls=>k (.pv (LH s ((List.range s.n).map fun j=>ls.getD j .bad)).1)
 |none=>F6 E ts r k
def bG(f:Fr):Operand→V
 |.tmp t=>bif Nat.blt t E.fn.ntmps then f t else .top
 |.const c=>Ki c
 |.global g=>match E.aM g with|some cs=>.pv (.rp cs)|none=>.top
 |.func f=>bif Nat.blt f Hr then .fn f []else .top
def fresh(draw:Bool)(site:Nat)(b:bK)(f:Fr)(m:Mem)(k:Fr→Mem→bD→Option R):Option R:=
 match m site with
 |none=>k f (aw m site b) [(true,site)]
 |some _=>if draw||b.names site then none else k (fa site f) (aw (bI site m) site b) [(true,site)]
def tM:V→Option (List V)
 |.pv (.agg cs)=>some (cs.map .pv)
 |.agg cs=>some cs
 |_=>none
def dc:Mem:=fun _=>none
def nB(op:BinOp)(t:TypeId)(a b:V)(k:PV→Option R):Option R:=
 match a,b with
 |.pv (.int q x),.pv (.int q' y)=>match op with
  |.shl=>if y<0 then none else k (.int q (q.wrap (x*2^(min y.toNat q.bits))))
  |.shr=>if y<0 then none else k (.int q (x.fdiv (2^(min y.toNat q.bits))))
  |op=>if q=q' then match op with
   |.add=>k (.int q (q.wrap (x+y)))
   |.sub=>k (.int q (q.wrap (x-y)))
   |.mul=>k (.int q (q.wrap (x*y)))
   |.quo=>if y=0 then none else k (.int q (q.wrap (x.tdiv y)))
   |.rem=>if y=0 then none else k (.int q (x.tmod y))
   |.and=>k (.int q (q.wrap (BitVec.ofInt q.bits x&&&BitVec.ofInt q.bits y).toNat))
   |.or=>k (.int q (q.wrap (BitVec.ofInt q.bits x|||BitVec.ofInt q.bits y).toNat))
   |.xor=>k (.int q (q.wrap (BitVec.ofInt q.bits x^^^BitVec.ofInt q.bits y).toNat))
   |.andNot=>k (.int q (q.wrap (BitVec.ofInt q.bits x&&& ~~~(BitVec.ofInt q.bits y)).toNat))
   |.eql=>k (.bool (x==y))
   |.neq=>k (.bool (x !=y))
   |.lss=>k (.bool (decide (x<y)))
   |.leq=>k (.bool (decide (x≤y)))
   |.gtr=>k (.bool (decide (x>y)))
   |.geq=>k (.bool (decide (x≥y)))
   |_=>none
   else none
 |.pv (.str x),.pv (.str y)=>match op with
  |.add=>if E.lp.room (x.length+y.length)=true then k (.str (x++y))else none
  |.eql=>k (.bool (x==y))
  |.neq=>k (.bool (!(x==y)))
  |.lss=>k (.bool (Op.bytesLess x y))
  |.leq=>k (.bool (Op.bytesLess x y||x==y))
  |.gtr=>k (.bool (!(Op.bytesLess x y||x==y)))
  |.geq=>k (.bool (!(Op.bytesLess x y)))
  |_=>none
 |.pv (.bool x),.pv (.bool y)=>match op,E.P.underlying t with
  |.eql,some .bool=>k (.bool (x==y))
  |.neq,some .bool=>k (.bool (!(x==y)))
  |_,_=>none
 |.pv .tJ,.pv .tJ=>match op,E.P.underlying t with
  |.eql,some (.pointer _)=>k (.bool true)
  |.neq,some (.pointer _)=>k (.bool false)
  |_,_=>none
 |.fn _ _,.pv .GY|.pv (.fn _ _),.pv .GY=>match op,E.P.underlying t with
  |.eql,some (.func _ _ _)=>k (.bool false)
  |.neq,some (.func _ _ _)=>k (.bool true)
  |_,_=>none
 |.pv (.rp _),.pv .tJ|.op _ _,.pv .tJ|.oe _ _ _,.pv .tJ=>match op,E.P.underlying t with
  |.eql,some (.pointer _)=>k (.bool false)
  |.neq,some (.pointer _)=>k (.bool true)
  |_,_=>none
 |a,b=>if aD E.P t then match vz E.P t,tM a,tM b with
  |some ks,some as,some bs=>match sR (lz dc 1) as,sR (lz dc 1) bs with
   |some as,some bs=>if iV ks as=true∧iV ks bs=true then match op with
    |.eql=>k (.bool (bM as bs))
    |.neq=>k (.bool (!(bM as bs)))
    |_=>none
    else none
   |_,_=>none
  |_,_,_=>none
  else none
def Ht:Operand→Bool
 |.const .nilIface=>true
 |_=>false
def WU(op:BinOp)(t:TypeId)(a:V)(k:PV→Option R):Option R:=
 match a with
 |.pv (.ifc b)=>match op,E.P.underlying t with
  |.eql,some (.interface _)=>k (.bool (!b))
  |.neq,some (.interface _)=>k (.bool b)
  |_,_=>none
 |_=>none
def Nj(op:BinOp)(t:TypeId)(y:Operand)(a b:V)(k:PV→Option R):Option R:=bif Ht y then WU E op t a k else nB E op t a b k
noncomputable def agree(a b:Option R):Option R:= @ite _ (a=b) (Classical.propDecidable _) a none
noncomputable def P1(op:BinOp)(t:TypeId)(es:List PV)(k:Bool→Option R):Option R:=
 match op,E.P.underlying t with
 |.eql,some (.slice _)=>if es.isEmpty=true then agree (k true) (k false)else k false
 |.neq,some (.slice _)=>if es.isEmpty=true then agree (k false) (k true)else k true
 |_,_=>none
def xun(op:UnOp)(a:V)(k:PV→Option R):Option R:=
 match op,a with
 |.not,.pv (.bool b)=>k (.bool !b)
 |.neg,.pv (.int q n)=>k (.int q (q.wrap (0-n)))
 |.xor,.pv (.int q n)=>k (.int q (q.wrap (BitVec.ofInt q.bits (if q.signed then-1 else q.max)^^^BitVec.ofInt q.bits n).toNat))
 |_,_=>none
def Hu(s d:TypeId)(a:V)(k:PV→Option R):Option R:=
 match E.P.underlying s,E.P.underlying d,a with
 |some (.int q),some (.int q'),.pv (.int q'' n)=>if q''=q then(if q'=q then k (.int q n)else k (.int q' (q'.wrap n)))else none
 |some .string,some .string,.pv (.str s)=>k (.str s)
 |_,_,_=>none
def wo(s:Nat)(t:TypeId)(e:PV)(off:Nat)(k:V→Option R):Option R:=
 if aD E.P t then(if off+aV E.P t≤s then k (.pv (.agg (((aQ s e).drop off).take (aV E.P t))))else none)
 else match(aQ s e)[off]? with
  |some p=>iD E t p fun p=>k (.pv p)
  |none=>none
def WE:V→Option PV
 |.pv p=>some p
 |_=>none
def EY(t:TypeId)(s i off:Nat):Bool:=match E.P.underlying t with
 |some (.array _ e)=>Nat.beq (aV E.P e) s&&aD E.P e&&Nat.beq i 0&&Nat.beq off 0
 |_=>false
def sH(own:Bool)(t:TypeId)(a:V)(m:Mem)(k:V→bD→Option R):Option R:=
 match a with
 |.pv (.rp cs)=>
  if aD E.P t then(if aV E.P t≤cs.length then k (.pv (.agg (cs.take (aV E.P t)))) []else none)
  else(cs.head?).bind fun p=>iD E t p fun p=>k (.pv p) []
 |.op id off=>match m id with
  |some (.box cs)=>
   if aD E.P t then(if off+aV E.P t≤cs.length then k (.agg ((cs.drop off).take (aV E.P t))) [(false,id)]else none)
   else match sR WE cs with
    |some ps=>(ps[off]?).bind fun p=>iD E t p fun p=>k (.pv p) [(false,id)]
    |none=>match cs[off]? with
     |some v=>DM E t v fun v=>k v [(false,id)]
     |none=>none
  |_=>none
 |.oe id i off=>match m id with
  |some (.arr s _ es)=>bif EY E t s i off then(if es.length*s=aV E.P t then k (.pv (.agg (DK s es))) [(false,id)]else none)else(es[i]?).bind fun e=>wo E s t e off fun v=>k v [(false,id)]
  |some (.tC s _ es)=>(es[i]?).bind fun e=>wo E s t e off fun v=>k v [(false,id)]
  |some (.nest _ _ es)=>if aD E.P t then none else(es[i]?).bind fun e=>
   if own then(match E.P.underlying t with
    |some (.slice et)=>(b9 (aV E.P et) (cell e off)).bind fun _=>k (.zU id i off) [(false,id)]
    |_=>none)
   else iD E t (cell e off) fun p=>k (.pv p) [(false,id)]
  |_=>none
 |.DJ id i off s j off2=>match m id with
  |some (.nest _ _ es)=>(es[i]?).bind fun e=>(b9 s (cell e off)).bind fun rs=>(rs[j]?).bind fun q=>wo E s t q off2 fun v=>k v [(false,id)]
  |_=>none
 |_=>none
def over{T:Type}:List T→List T→List T
 |[],cs=>cs
 |x::new,[]=>x::over new []
 |x::new,_::cs=>x::over new cs
def bN{T:Type}:List T→Nat→List T→List T
 |cs,0,new=>over new cs
 |[],_+1,new=>new
 |c::cs,off+1,new=>c::bN cs off new
theorem LI{T:Type}:∀(new cs:List T),over new cs=new++cs.drop new.length
 |[],cs=>by rfl
 |x::new,[]=>by simp[over,LI new []]
 |x::new,_::cs=>by simp[over,LI new cs]
theorem dZ{T:Type}:∀(cs:List T)(off:Nat)(new:List T),bN cs off new=cs.take off++new++cs.drop (off+new.length)
 |cs,0,new=>by cases cs<;>simp[bN,LI]
 |[],_+1,new=>by simp[bN]
 |c::cs,off+1,new=>by rw[bN,dZ cs off new,show off+1+new.length=(off+new.length)+1 by omega];simp
def zW(draw:Bool)(m:Mem)(n:Nat)(agg:Bool)(v:V):Option (PV×Mem):=if draw then(match kJ dc n agg v with|some (p,_)=>some (p,m)|none=>none)else kJ m n agg v
def setRow(s:Nat)(e:PV)(off:Nat)(p:PV):PV:=if s=1 then p else .agg ((aQ s e).set off p)
def setCells(s:Nat)(e:PV)(off n:Nat)(p:PV):PV:=if off=0∧n=s then p else .agg (bN (aQ s e) off p.cells)
def P2(t:TypeId)(i off:Nat)(b:Option bK)(x:V):Option (Nat×TypeId×Nat×PV):=match b,x with
 |some (.arr s et es),.pv p=>bif EY E t s i off then some (s,et,es.length,p)else none
 |_,_=>none
def wq(draw:Bool)(t:TypeId)(a x:V)(m:Mem)(k:Mem→bD→Option R):Option R:=
 match a with
 |.op id off=>match m id with
  |some (.box cs)=>match toCells (aV E.P t) x with
   |some new=>if off+aV E.P t≤cs.length∧0<aV E.P t then k (aw m id (.box (bN cs off new))) [(true,id)]else none
   |none=>none
  |_=>none
 |.oe id i off=>match P2 E t i off (m id) x with
  |some (s,et,n,p)=>(asAgg (aV E.P t) p).bind fun _=>if n*s=aV E.P t∧0<aV E.P t then k (aw m id (.arr s et (pQ s n p))) [(true,id)]else none
  |none=>match zW draw m (aV E.P t) (aD E.P t) x with
  |some (p,m)=>match m id with
   |some (.arr s et es)=>(es[i]?).bind fun e=>
    if off=0∧aV E.P t=s∧0<s then k (aw m id (.arr s et (es.set i p))) [(true,id)]
    else if off+aV E.P t≤s∧0<aV E.P t∧1<s then k (aw m id (.arr s et (es.set i (.agg (bN (aQ s e) off p.cells))))) [(true,id)]
    else none
   |some (.nest s et es)=>(es[i]?).bind fun e=>if off+aV E.P t≤s∧0<aV E.P t∧1<s then k (aw m id (.nest s et (es.set i (.agg (bN (aQ s e) off p.cells))))) [(true,id)]else none
   |_=>none
  |none=>none
 |.DJ id i off s j off2=>match kJ dc (aV E.P t) (aD E.P t) x with
  |some (p,_)=>match m id with
   |some (.nest s0 et es)=>(es[i]?).bind fun e=>(b9 s (cell e off)).bind fun rs=>(rs[j]?).bind fun q=>
    if off2+aV E.P t≤s∧0<aV E.P t∧off<s0 then k (aw m id (.nest s0 et (es.set i (setRow s0 e off (.mE s (rs.set j (setCells s q off2 (aV E.P t) p))))))) [(true,id)]
    else none
   |_=>none
  |none=>none
 |_=>none
def JQ(m:Mem)(x:V)(k:Nat→bD→Option R):Option R:=
 match x with
 |.pv (.rs _ es)=>k es.length []
 |.fO=>k 0 []
 |.fS id _ len=>match m id with
  |some (.arr _ _ _)=>k len [(false,id)]
  |some (.tC _ _ _)=>k len [(false,id)]
  |_=>none
 |.os id=>match m id with
  |some (.arr _ _ es)=>k es.length [(false,id)]
  |some (.tC _ _ es)=>k es.length [(false,id)]
  |some (.nest _ _ es)=>k es.length [(false,id)]
  |some (.box cs)=>if cs.length≤maxLen then k cs.length [(false,id)]else none
  |_=>none
 |_=>none
def Ut(sz:Nat)(m:Mem)(x:V)(k:Nat→bD→Option R):Option R:=
 match x with
 |.zU id i off=>match m id with
  |some (.nest _ _ es)=>(es[i]?).bind fun e=>(b9 sz (cell e off)).bind fun rs=>k rs.length [(false,id)]
  |_=>none
 |x=>JQ m x k
def WV(m:Mem)(x:V)(k:Nat→bD→Option R):Option R:=
 match x with
 |.om id=>match m id with
  |some (.map _ es)=>if es.length≤maxLen then k es.length [(false,id)]else none
  |_=>none
 |.pv .rr=>k 0 []
 |_=>none
def Nk(t:TypeId)(x:V)(m:Mem)(k:V→bD→Option R):Option R:=
 match E.P.underlying t with
 |some (.array n _)=>if n≤maxLen then k (.pv (.int .i64 n)) []else none
 |some .string=>match x with
  |.pv (.str s)=>k (.pv (.int .i64 s.length)) []
  |_=>none
 |some (.slice e)=>Ut (aV E.P e) m x fun n ft=>k (.pv (.int .i64 n)) ft
 |some (.map _ _)=>WV m x fun n ft=>k (.pv (.int .i64 n)) ft
 |_=>none
def fD(m:Mem)(sz:Nat):V→Option (List PV×bD)
 |.pv (.rs s es)=>if s=sz then some (es,[])else match es with|[]=>some ([],[])|_=>none
 |.fO=>some ([],[])
 |.os id=>match m id with
  |some (.arr s' _ es)=>if s'=sz then some (es,[(false,id)])else none
  |some (.tC s' _ es)=>if s'=sz then some (es,[(false,id)])else none
  |_=>none
 |.fS id lo len=>match m id with
  |some (.arr s' _ es)=>if s'=sz then some ((es.drop lo).take len,[(false,id)])else none
  |some (.tC s' _ es)=>if s'=sz then some ((es.drop lo).take len,[(false,id)])else none
  |_=>none
 |.zU id i off=>match m id with
  |some (.nest _ _ es)=>(es[i]?).bind fun e=>(b9 sz (cell e off)).bind fun rs=>some (rs,[(false,id)])
  |_=>none
 |_=>none
def LJ(m:Mem)(sz:Nat)(x:V)(k:List PV→bD→Option R):Option R:=
 match x with
 |.zU id i off=>match m id with
  |some (.nest _ _ es)=>(es[i]?).bind fun e=>(b9 sz (cell e off)).bind fun rs=>k rs [(false,id)]
  |_=>none
 |x=>match fD m sz x with
  |some (es,ft)=>k es ft
  |none=>none
def EZ:List PV→Option Bytes
 |[]=>some []
 |.int .u8 n::r=>(EZ r).map fun b=>UInt8.ofNat n.toNat::b
 |_=>none
def E0(s d:TypeId)(a:V)(m:Mem)(k:PV→bD→Option R):Option R:=
 match E.P.underlying s,E.P.underlying d with
 |some (.slice e),some .string=>match E.P.underlying e,fD m 1 a with
  |some (.int .u8),some (es,ft)=>(EZ es).bind fun b=>k (.str b) ft
  |_,_=>none
 |_,_=>Hu E s d a fun p=>k p []
def ar(i:Int)(n:Nat):Prop:=0≤i∧i<(n:Int)
instance (i:Int) (n:Nat):Decidable (ar i n):=inferInstanceAs (Decidable (_∧_))
def dq(t:TypeId)(x ix:V)(m:Mem)(k:V→bD→Option R):Option R:=
 match ix with
 |.pv (.int _ i)=>match E.P.underlying t,x with
  |some (.slice e),.pv (.rs s es)=>if s=aV E.P e∧0<s then(pG es i).bind fun p=>k (.pv (.rp (aQ s p))) []else none
  |some (.slice e),.os id=>match m id with
   |some (.arr s _ es)=>if s=aV E.P e∧0<s then(if ar i es.length then k (.oe id i.toNat 0) [(false,id)]else none)else none
   |some (.tC s _ es)=>if s=aV E.P e∧0<s then(if ar i es.length then k (.oe id i.toNat 0) [(false,id)]else none)else none
   |some (.nest s _ es)=>if s=aV E.P e∧0<s then(if ar i es.length then k (.oe id i.toNat 0) [(false,id)]else none)else none
   |some (.box cs)=>if aV E.P e=1∧ar i cs.length then k (.op id i.toNat) [(false,id)]else none
   |_=>none
  |some (.slice e),.zU id i0 off=>match m id with
   |some (.nest _ _ es)=>if 0<aV E.P e then(es[i0]?).bind fun e0=>(b9 (aV E.P e) (cell e0 off)).bind fun rs=>if ar i rs.length then k (.DJ id i0 off (aV E.P e) i.toNat 0) [(false,id)]else none else none
   |_=>none
  |some (.slice e),.fS id lo len=>match m id with
   |some (.arr s _ _)=>if s=aV E.P e∧0<s then(if ar i len then k (.oe id (lo+i.toNat) 0) [(false,id)]else none)else none
   |some (.tC s _ _)=>if s=aV E.P e∧0<s then(if ar i len then k (.oe id (lo+i.toNat) 0) [(false,id)]else none)else none
   |_=>none
  |some (.array n e),.op id off=>if ar i n∧0<aV E.P e then k (.op id (off+i.toNat*aV E.P e)) []else none
  |some (.array n e),.pv (.rp cs)=>if ar i n∧0<aV E.P e then k (.pv (.rp (cs.drop (i.toNat*aV E.P e)))) []else none
  |some (.array n e),.oe id j off=>if ar i n∧0<aV E.P e then(match(match m id with|some (.arr s _ _)=>Nat.beq (aV E.P e) s|_=>false)with
   |true=>k (.oe id (i.toNat+j) off) [(false,id)]
   |false=>k (.oe id j (off+i.toNat*aV E.P e)) [(false,id)])else none
  |_,_=>none
 |_=>none
def DN(s:TypeId)(j:Nat):Option (Nat×TypeId):=
 match E.P.underlying s with
 |some (.struct fs)=>match fs[j]? with
  |some f=>if aV E.P f.type=0 then none else some (f.offset,f.type)
  |none=>none
 |_=>none
def kr(s:TypeId)(x:V)(j:Nat)(k:V→Option R):Option R:=
 match DN E s j with
 |some (o,_)=>match x with
  |.pv (.rp cs)=>k (.pv (.rp (cs.drop o)))
  |.op id off=>k (.op id (off+o))
  |.oe id i off=>k (.oe id i (off+o))
  |.DJ id i off s j off2=>k (.DJ id i off s j (off2+o))
  |_=>none
 |none=>none
def Hv(t:TypeId)(cs:List V)(off:Nat)(k:V→Option R):Option R:=
 if aD E.P t then(if off+aV E.P t≤cs.length then k (.agg ((cs.drop off).take (aV E.P t)))else none)
 else match cs[off]? with
  |some v=>DM E t v k
  |none=>none
def Hw(s:TypeId)(x:V)(j:Nat)(k:V→Option R):Option R:=
 match DN E s j,tM x with
 |some (o,t),some cs=>Hv E t cs o k
 |_,_=>none
def E1(t:TypeId)(x ix:V)(k:V→Option R):Option R:=
 match ix with
 |.pv (.int _ i)=>match E.P.underlying t,x with
  |some .string,.pv (.str s)=>(Ng s i).bind fun b=>k (.pv (.int .u8 b.toNat))
  |some (.array n et),x=>match tM x with
   |some cs=>if ar i n∧0<aV E.P et then Hv E et cs (i.toNat*aV E.P et) k else none
   |none=>none
  |_,_=>none
 |_=>none
def jU(d:Int):Option V→Option Int
 |none=>some d
 |some (.pv (.int _ i))=>some i
 |_=>none
def yn(t:TypeId)(x:V)(lo hi mx:Option V)(m:Mem)(k:V→bD→Option R):Option R:=
 match mx with
 |some mx=>match E.P.underlying t,x with
  |some (.slice e),.os id=>match m id with
   |some (.arr s _ es)=>match lo,hi,mx with
    |none,some (.pv (.int _ h)),.pv (.int _ c)=>if 0≤h∧h≤c∧c≤(es.length:Int)∧s=aV E.P e then k (.fS id 0 h.toNat) [(false,id)]else none
    |_,_,_=>none
   |_=>none
  |_,_=>none
 |none=>match E.P.underlying t,x with
  |some .string,.pv (.str s)=>match jU 0 lo,jU s.length hi with
   |some l,some h=>if 0≤l∧l≤h∧h≤(s.length:Int)then k (.pv (.str ((s.take h.toNat).drop l.toNat))) []else none
   |_,_=>none
  |some (.slice e),.pv (.rs sz es)=>match jU 0 lo,jU es.length hi with
   |some l,some h=>if 0≤l∧l≤h∧h≤(es.length:Int)∧sz=aV E.P e∧aV E.P e≠0 then k (.pv (.rs sz ((es.take h.toNat).drop l.toNat))) []else none
   |_,_=>none
  |some (.slice e),.os id=>match m id with
   |some (.arr s _ es)=>match jU 0 lo,jU es.length hi with
    |some l,some h=>if 0≤l∧l≤h∧h≤(es.length:Int)∧s=aV E.P e then k (.fS id l.toNat (h.toNat-l.toNat)) [(false,id)]else none
    |_,_=>none
   |some (.tC s _ es)=>match jU 0 lo,jU es.length hi with
    |some l,some h=>if 0≤l∧l≤h∧h≤(es.length:Int)∧s=aV E.P e then k (.fS id l.toNat (h.toNat-l.toNat)) [(false,id)]else none
    |_,_=>none
   |_=>none
  |_,_=>none
def placesOf(fs:List Field)(j:Nat):Option (Nat×Nat):=(fs[j]?).map fun f=>(f.offset,aV E.P f.type)
def Kk(place:Nat→Option (Nat×Nat))(cs:List V):List (Nat×V)→Option (List V)
 |[]=>some cs
 |(i,v)::rest=>match place i with
  |some (off,size)=>match toCells size v with
   |some new=>if off+size≤cs.length then Kk place (bN cs off new) rest else none
   |none=>none
  |none=>none
def dr(t:TypeId):Option (List V):=match zeroV E.P t with|some v=>toCells (aV E.P t) v|none=>none
def E2(t:TypeId)(parts:List (Nat×V))(k:V→Option R):Option R:=
 match dr E t,E.P.underlying t with
 |some z,some (.struct fs)=>if fs.toList.all (fun f=>(E.P.info? f.type).isSome)then match Kk (placesOf E fs.toList) z parts with
  |some cs=>k (.agg cs)
  |none=>none
  else none
 |some z,some (.array _ e)=>if 0<aV E.P e then match Kk (fun i=>some (i*aV E.P e,aV E.P e)) z parts with
  |some cs=>k (.agg cs)
  |none=>none
  else none
 |_,_=>none
def fl(m:Mem)(n:Nat)(agg:Bool):Nat→List (Nat×V)→Option (List PV×Mem)
 |_,[]=>some ([],m)
 |i,(j,v)::r=>if i=j then match kJ m n agg v with
  |some (p,m)=>match fl m n agg (i+1) r with
   |some (ps,m)=>some (p::ps,m)
   |none=>none
  |none=>none
  else none
def Hx:Nat→List (Nat×V)→Option (List V)
 |_,[]=>some []
 |i,(j,v)::r=>if i=j then match toCells 1 v with
  |some cs=>match Hx (i+1) r with
   |some us=>some (cs++us)
   |none=>none
  |none=>none
  else none
def R8(t:TypeId):Bool:=match E.P.underlying t with|some (.func _ _ _)=>true|_=>false
def E3(t:TypeId):Option PV:=match zeroV E.P t with
 |some v=>match lz dc 2 v with
  |some p=>if aD E.P t=p.isAgg∧p.cells.length=aV E.P t∧p.plain=true then some p else none
  |none=>none
 |none=>none
def keyOf(kt:TypeId)(v:V):Option PV:=
 match vz E.P kt with
 |some ks=>
  if aD E.P kt then(match tM v with
   |some cs=>match sR (lz dc 1) cs with
    |some ps=>if iV ks ps then some (.agg ps)else none
    |none=>none
   |none=>none)
  else match v with
   |.pv p=>if iV ks [p]then some p else none
   |_=>none
 |none=>none
def Nl(site:Nat)(t:TypeId)(x ix:V)(m:Mem)(k:V→Mem→bD→Option R):Option R:=
 match E.P.underlying t with
 |some (.map kt et)=>match E.P.underlying et with
  |some (.slice e)=>match x,zeroV E.P et with
   |.om id,some .fO=>match m id,m site with
    |some (.fu zR e' es),none=>if zR=kt∧e'=e∧0<aV E.P e then(keyOf E kt ix).bind fun key=>(Nh (aV E.P e) key es).bind fun rs=>k (.os site) (aw (aw m id (.fu kt e (xy key es))) site (.arr (aV E.P e) e rs)) [(true,id),(true,site)]else none
    |_,_=>none
   |_,_=>none
  |_=>none
 |_=>none
def yo(t:TypeId)(x ix:V)(ok:Bool)(m:Mem)(k:V→bD→Option R):Option R:=
 match E.P.underlying t with
 |some (.map kt et)=>match E3 E et with
  |some z=>match x with
   |.om id=>match m id with
    |some (.map zR es)=>if zR=kt then(keyOf E kt ix).bind fun key=>iD E et (bS key z es) fun v=>k (if ok then .aG [.pv v,.pv (.bool (lM key es))]else .pv v) [(false,id)]else none
    |_=>none
   |.pv p=>cM kt p ((keyOf E kt ix).bind fun _=>k (if ok then .aG [.pv z,.pv (.bool false)]else .pv z) []) fun ks vs=>(keyOf E kt ix).bind fun key=>iD E et (bS key z (ks.zip vs)) fun v=>k (if ok then .aG [.pv v,.pv (.bool (lM key (ks.zip vs)))]else .pv v) []
   |_=>none
  |none=>none
 |_=>none
def DO(draw:Bool)(m:Mem)(v:V):Option (PV×Mem):=if draw then(match yj dc v with|some (p,_)=>some (p,m)|none=>none)else yj m v
def pS(draw:Bool)(t:TypeId)(x key val:V)(m:Mem)(k:Mem→bD→Option R):Option R:=
 match E.P.underlying t with
 |some (.map kt _)=>match x with
  |.om id=>match DO draw m val with
   |some (v,m)=>match m id with
    |some (.map zR es)=>if zR=kt then(keyOf E kt key).bind fun key=>k (aw m id (.map kt (dm key v es))) [(true,id)]else none
    |_=>none
   |none=>none
  |_=>none
 |_=>none
def ag:Nat:=140737488355328
def lN(m:Mem):Nat→List V→Option (List PV×Option (Nat×Nat))
 |_,[]=>some ([],none)
 |j,.os id::r=>match m id with
  |some (.arr s _ es)=>match lN m (j+1) r with
   |some (ps,none)=>some (.mE s es::ps,some (j,id))
   |_=>none
  |_=>none
 |j,v::r=>match lz dc 1 v with
  |some p=>match lN m (j+1) r with
   |some (ps,t)=>some (p::ps,t)
   |none=>none
  |none=>none
def elemOf(agg:Bool)(ps:List PV):Option PV:=if agg then some (.agg ps)else match ps with|[p]=>some p|_=>none
inductive Sp where
 |st (id i off s:Nat) (et:TypeId) (es ps:List PV) (id2:Nat)
 |app (id s:Nat) (et:TypeId) (es new:List PV) (src:Option Nat) (rd:bD)
 |lit (s:Nat) (et:TypeId) (p:PV) (id2:Nat)
 |upd (id:Nat) (kt e:TypeId) (es:List (PV×PV)) (key:PV) (s:Nat) (rs:List PV) (id2:Nat)
def CF(site:Nat)(o:Oper)(f:Fr)(m:Mem):Option Sp:=
 match o.op with
 |.store t a x=>match bG E f a with
  |.oe id i off=>match m id with
   |some (.nest s et es)=>match toCells (aV E.P t) (bG E f x)with
    |some cs=>match lN m 0 cs with
     |some (ps,some (_,id2))=>if off+aV E.P t≤s&&0<aV E.P t&& !(Nat.beq id2 id)then some (.st id i off s et es ps id2)else none
     |_=>none
    |none=>none
   |_=>none
  |_=>none
 |.buildSlice t len parts=>match E.P.underlying t,parts.toList.map fun(i,x)=>(i,bG E f x)with
  |some (.slice e),[(0,v)]=>match toCells (aV E.P e) v with
   |some cs=>match lN m 0 cs,m site with
    |some (ps,some (_,id2)),none=>match elemOf (aD E.P e) ps with
     |some p=>if Nat.beq len 1&&0<aV E.P e&&aV E.P e≤16777216&&(dr E e).isSome then some (.lit (aV E.P e) e p id2)else none
     |none=>none
    |_,_=>none
   |none=>none
  |_,_=>none
 |.call c=>match c.callee,c.args.toList.map (bG E f),c.argTypes.toList with
  |.builtin .append,[.os id,x],[t,t']=>match E.P.underlying t,m id with
   |some (.slice e),some (.nest s et es)=>if et=e&&s=aV E.P e&&decide (t'=t)&&(dr E e).isSome&&0<aV E.P e&&0<JP E.P e then(match x with
    |.os vq=>match m vq with
     |some (.nest s' JL new)=>if Nat.beq s' s&&decide (JL=et)&& !(Nat.beq vq id)then some (.app id s et es new (some vq) [])else none
     |_=>match fD m s x with
      |some (new,rd)=>if x.has id then none else some (.app id s et es new none rd)
      |none=>none
    |_=>match fD m s x with
     |some (new,rd)=>if x.has id then none else some (.app id s et es new none rd)
     |none=>none)else none
   |_,_=>none
  |_,_,_=>none
 |.mapUpdate t x key v=>match E.P.underlying t,bG E f x,bG E f v with
  |some (.map kt _),.om id,.os id2=>match m id,m id2,keyOf E kt (bG E f key)with
   |some (.fu zR e es),some (.arr s e' rs),some key=>if decide (zR=kt)&&decide (e'=e)&&Nat.beq s (aV E.P e)then some (.upd id kt e es key s rs id2)else none
   |_,_,_=>none
  |_,_,_=>none
 |_=>none
def Sp.info(site:Nat):Sp→Kl×bD
 |.st id _ _ _ _ _ _ id2=>([(true,id2),(false,id)],[(true,id),(true,id2)])
 |.app id _ _ _ _ (some id2) _=>([(true,id2),(true,id)],[(true,id),(true,id2)])
 |.app id _ _ _ _ none rd=>([(true,id)],(true,id)::rd)
 |.lit _ _ _ id2=>([(true,id2)],[(true,site),(true,id2)])
 |.upd id _ _ _ _ _ _ id2=>([(true,id2),(false,id)],[(true,id),(true,id2)])
def xsp(site:Nat)(sp:Sp)(f:Fr)(m:Mem)(k:V→Fr→Mem→bD→Option R):Option R:=
 match sp with
 |.st id i off s et es ps id2=>(es[i]?).bind fun e=>k .top (kf [(true,id2),(false,id)] f) (xw [(id,.nest s et (es.set i (if s=1 then ps.headD .bad else .agg (bN (aQ s e) off ps))))] (km [(true,id2),(false,id)] m)) [(true,id),(true,id2)]
 |.app id s et es new src rd=>if(es++new).length*JP E.P et≤ag then k (.os id) (kf (Sp.app id s et es new src rd|>.info site).1 f) (xw [(id,.nest s et (es++new))] (km (Sp.app id s et es new src rd|>.info site).1 m)) (Sp.app id s et es new src rd|>.info site).2 else none
 |.lit s et p id2=>k (.os site) (kf [(true,id2)] f) (xw [(site,.nest s et [p])] (km [(true,id2)] m)) [(true,site),(true,id2)]
 |.upd id kt e es key s rs id2=>k .top (kf [(true,id2),(false,id)] f) (xw [(id,.fu kt e (dm key (.mE s rs) es))] (km [(true,id2),(false,id)] m)) [(true,id),(true,id2)]
def DP(draw:Bool)(site:Nat)(t t':TypeId)(s x:V)(f:Fr)(m:Mem)(k:V→Fr→Mem→Option R):Option R:=
 if draw|| !(decide (t'=t))then none else
 match E.P.underlying t with
 |some (.slice e)=>if(dr E e).isNone then none else match fD m (aV E.P e) x with
  |some (new,_)=>match s with
   |.fO=>if new.length*JP E.P e≤ag∧0<JP E.P e∧0<aV E.P e then fresh draw site (.arr (aV E.P e) e new) f m (fun f m _=>k (.os site) f m)else none
   |.os id=>match m id with
    |some (.arr sz et es)=>if et=e∧sz=aV E.P e∧x.has id=false then(if(es++new).length*JP E.P e≤ag∧0<JP E.P e then fresh draw id (.arr sz e (es++new)) (fa id f) (bx (bI id m) id) (fun f m _=>k (.os id) f m)else none)else none
    |_=>none
   |_=>none
  |none=>none
 |_=>none
def Nn(t:TypeId)(d x:V)(m:Mem)(k:V→Mem→bD→Option R):Option R:=
 match E.P.underlying t with
 |some (.slice e)=>match d with
  |.os id=>match m id with
   |some (.arr sz et es)=>if sz=aV E.P e∧x.has id=false then LJ m sz x fun new ft=>k (.pv (.int .i64 (min new.length es.length:Nat))) (aw m id (.arr sz et (new.take es.length++es.drop new.length))) ((true,id)::ft)else none
   |_=>none
  |_=>none
 |_=>none
def Hy(t:TypeId)(x:V)(m:Mem)(k:V→Mem→bD→Option R):Option R:=
 match E.P.underlying t with
 |some (.slice e)=>match x,E3 E e with
  |.fS id lo len,some z=>match m id with
   |some (.arr sz et es)=>if sz=aV E.P e∧et=e∧lo+len≤es.length∧0<aV E.P e then k .top (aw m id (.arr sz et (es.take lo++(List.replicate len z++es.drop (lo+len))))) [(true,id)]else none
   |_=>none
  |_,_=>none
 |_=>none
def tN(draw:Bool)(site:Nat)(t:TypeId)(len cap:V)(f:Fr)(m:Mem)(k:V→Fr→Mem→bD→Option R):Option R:=
 match E.P.underlying t,len,cap with
 |some (.slice e),.pv (.int _ n),.pv (.int _ c)=>match E3 E e with
  |some z=>if 0≤n∧n≤c∧c.toNat*JP E.P e≤ag∧0<JP E.P e∧0<aV E.P e then fresh draw site (.arr (aV E.P e) e (List.replicate n.toNat z)) f m (fun f m ft=>k (.os site) f m ft)else none
  |none=>none
 |_,_,_=>none
def Np(a b:V)(k:PV→Option R):Option R:=match a,b with
 |.pv (.int q x),.pv (.int q' y)=>if q=q' then k (.int q (if y<x then y else x))else none
 |_,_=>none
def F7(a b:V)(k:PV→Option R):Option R:=match a,b with
 |.pv (.int q x),.pv (.int q' y)=>if q=q' then k (.int q (if y>x then y else x))else none
 |_,_=>none
def Nq(a b c d:V)(k:PV→Option R):Option R:=F7 a b fun p=>F7 (.pv p) c fun p=>F7 (.pv p) d k
def yp(t:TypeId):Bool:=match E.P.underlying t with|some (.int _)|some .bool|some .string=>true|_=>false
def iZ(m:Mem):List V→Option (List PV×Mem)
 |[]=>some ([],m)
 |v::r=>match yj m v with
  |some (p,m)=>match iZ m r with
   |some (ps,m)=>some (p::ps,m)
   |none=>none
  |none=>none
def Km:PV→PV
 |.int q n=>.int q n
 |.bool b=>.bool b
 |.str s=>.str s
 |_=>.bad
def zs(draw:Bool)(site:Nat)(fid:FuncId)(args:List V)(f:Fr)(m:Mem)(k:V→Fr→Mem→bD→Option R):Option R:=
 match E.ctx fid with
 |some M=>match E.P.funcs[fid]? with
  |some fn=>
   if fn.resultTypes.toList.all (yp E)then(match sR (lz m eP) args with
     |some ps=>(M ps).bind fun r=>F6 E fn.resultTypes.toList r fun v=>k v f m ((iY (cV m eP) args).map fun i=>(false,i))
     |none=>none)
   else(match iZ (if draw then dc else m) args with
     |some (ps,m')=>(M ps).bind fun r=>EX E fid fn.resultTypes.toList r fun v=>k v f (if draw then m else m') (if draw then[]else[(true,0)])
     |none=>none)
  |none=>none
 |none=>match E.own fid with
  |some M=>match E.P.funcs[fid]? with
   |some fn=>match fn.resultTypes.toList with
    |[t]=>match E.P.underlying t with
     |some (.slice e)=>if yp E e=true∧aV E.P e=1 then(match sR (lz m eP) args with
      |some ps=>(M ps).bind fun r=>(ah (aV E.P e) r).bind fun es=>fresh draw site (.arr (aV E.P e) e (es.map Km)) f m fun f m1 ft=>k (.os site) f m1 (ft++(iY (cV m eP) args).map fun i=>(false,i))
      |none=>none)
      else match iZ (if draw then dc else m) args with
      |some (ps,m')=>(M ps).bind fun r=>(ah (aV E.P e) r).bind fun es=>fresh draw site (.arr (aV E.P e) e es) f (if draw then m else m') fun f m ft=>k (.os site) f m ft
      |none=>none
     |_=>none
    |_=>none
   |none=>none
  |none=>if draw then none else E.inl R fid (site*4096+fid) args f m fun v f m=>k v f m [(true,0)]
def WW(f:TypeId→Option (List TypeId)):List Field→Option (List TypeId)
 |[]=>some []
 |x::r=>(f x.type).bind fun a=>(WW f r).bind fun b=>some (a++b)
def WX(l:List TypeId):Nat→List TypeId
 |0=>[]
 |n+1=>l++WX l n
def Hz(P:Program):Nat→TypeId→Option (List TypeId)
 |0,_=>none
 |d+1,t=>match P.underlying t with
  |some (.struct fs)=>WW (Hz P d) fs.toList
  |some (.array n e)=>(Hz P d e).bind fun l=>some (WX l n)
  |some _=>some [t]
  |none=>none
def zt(n:Nat)(args:List V)(f:Fr):Fr:=fun t=>bif Nat.blt t n then args.getD t .top else f (t-n)
def zX(n:Nat)(f:Fr):Fr:=fun t=>f (t+n)
def WY:V→Bool
 |.fO=>true
 |_=>false
def xz(site j:Nat):Nat:=site+(j+1)*1606938044258990275541962092341162602522202993782792835301376
def BC(E:Env){R:Type}(site:Nat):List TypeId→Nat→Fr→Mem→(Fr→Mem→Option R)→Option R
 |[],_,F,m,k=>k F m
 |t::ts,j,F,m,k=>match F j with
  |.fO=>match E.P.underlying t with
   |some (.slice e)=>if 0<aV E.P e then fresh false (xz site j) (.arr (aV E.P e) e []) F m fun F m _=>BC E site ts (j+1) (gy F j (.os (xz site j))) m k else none
   |_=>none
  |_=>BC E site ts (j+1) F m k
def afY(E:Env)(t:TypeId):Bool:=match E.P.underlying t with|some (.slice _)=>true|_=>false
def LK(f:Fr):Option Operand→Bool
 |none=>true
 |some x=>match bG E f x with|.pv (.int _ _)=>true|_=>false
noncomputable def vB(n:Nat)(g:Nat→Option R):Option R:= @dite _ (∃r,∀i,i<n→g i=some r) (Classical.propDecidable _) (fun h=>some (Classical.choose h)) fun _=>none
def P3(site:Nat)(t:TypeId)(x:V)(f:Fr)(m:Mem)(k:V→Fr→Mem→Option R):Option R:=
 match E.P.underlying t with
 |some (.map kt _)=>match x with
  |.om id=>match m id with
   |some (.map zR es)=>if zR=kt then fresh false site (.iter t es none) (fa id f) (bx (bI id m) id) fun f m _=>k (.it site) f m else none
   |_=>none
  |_=>none
 |_=>none
noncomputable def WZ(x:V)(f:Fr)(m:Mem)(k:V→Fr→Mem→Option R):Option R:=
 match x with
 |.it id=>match m id with
  |some (.iter t es _)=>match E.P.underlying t with
   |some (.map kt et)=>if es.isEmpty=true then k (.aG [.pv (.bool false)]) f m else vB es.length fun i=>(es[i]?).bind fun e=>iD E kt e.1 fun a=>iD E et e.2 fun b=>k (.aG [.pv (.bool true),.pv a,.pv b]) f (aw m id (.iter t (es.eraseIdx i) (some (a,b))))
   |_=>none
  |_=>none
 |_=>none
def P4(x:V)(m:Mem)(k:V→Mem→Option R):Option R:=
 match x with
 |.it id=>match m id with
  |some (.iter t es (some (a,b)))=>k (.aG [.pv a,.pv b]) (aw m id (.iter t es none))
  |_=>none
 |_=>none
def P5:Op→Bool
 |.range .. =>true
 |.next .. =>true
 |.entry .. =>true
 |_=>false
def zu(g:FuncId):FuncId:=bif Nat.blt g Hr then g else g-Hr
def CG(g:FuncId)(caps args:List V):List V:=bif Nat.blt g Hr then args++caps else caps++args
noncomputable def cG(draw:Bool)(site:Nat)(o:Oper)(f:Fr)(m:Mem)(k:V→Fr→Mem→bD→Option R):Option R:=
 match o.op with
 |.move x=>k (bG E f x) f m []
 |.assign x=>match bG E f x with
  |.fO=>match E.P.underlying o.type with
   |some (.slice e)=>if 0<aV E.P e then fresh draw site (.arr (aV E.P e) e []) f m fun f m ft=>k (.os site) f m ft else none
   |_=>k .fO f m []
  |v=>k v f m []
 |.pick c a b=>match bG E f c with
  |.pv (.bool t)=>if t then k (bG E f a) f m []else k (bG E f b) f m []
  |_=>none
 |.alloc t=>match dr E t with
  |some cs=>bif E.EW site then(match E.P.underlying t,sR WE cs with
   |some (.array n e),some ps=>if aD E.P e=true∧n*aV E.P e=aV E.P t∧0<aV E.P e∧n≤16777216 then fresh draw site (.arr (aV E.P e) e (pQ (aV E.P e) n (.agg ps))) f m fun f m ft=>k (.oe site 0 0) f m ft else none
   |_,_=>none)
   else if !draw&&afY E t then BC E site [t] 0 (zt cs.length cs f) m fun F m=>fresh false site (.box ((List.range cs.length).map F)) (zX cs.length F) m fun f m ft=>k (.op site 0) f m ft
   else fresh draw site (.box cs) f m fun f m ft=>k (.op site 0) f m ft
  |none=>none
 |.box t x=>match toCells (aV E.P t) (bG E f x)with
  |some cs=>if !draw&&cs.any WY then(match Hz E.P 8 t with
   |some ts=>if ts.length=cs.length then BC E site ts 0 (zt cs.length cs f) m fun F m=>fresh false site (.box ((List.range cs.length).map F)) (zX cs.length F) m fun f m ft=>k (.op site 0) f m ft else none
   |none=>none)else fresh draw site (.box cs) f m fun f m ft=>k (.op site 0) f m ft
  |none=>none
 |.build t parts=>E2 E t (parts.toList.map fun(i,x)=>(i,bG E f x)) fun v=>k v f m []
 |.buildSlice t len parts=>match E.P.underlying t with
  |some (.slice e)=>if R8 E e then(match Hx 0 (parts.toList.map fun(i,x)=>(i,bG E f x))with
   |some cs=>if parts.size=len∧aV E.P e=1∧len≤16777216∧(dr E e).isSome=true then fresh draw site (.box cs) f m fun f m ft=>k (.os site) f m ft else none
   |none=>none)
   else if E.EW (site+1000000000000000000000000000000)then(match fl dc (aV E.P e) (aD E.P e) 0 (parts.toList.map fun(i,x)=>(i,bG E f x))with
   |some (es,_)=>if es.length=len∧0<aV E.P e∧len*aV E.P e≤16777216∧(dr E e).isSome=true then k (.pv (.rs (aV E.P e) es)) f m []else none
   |none=>none)
   else match fl (if draw then dc else m) (aV E.P e) (aD E.P e) 0 (parts.toList.map fun(i,x)=>(i,bG E f x))with
   |some (es,m1)=>if es.length=len∧0<aV E.P e∧len*aV E.P e≤16777216∧(dr E e).isSome=true then fresh draw site (.arr (aV E.P e) e es) f (if draw then m else m1) fun f m ft=>k (.os site) f m ft else none
   |none=>none
  |_=>none
 |.load t a=>sH E (E.EW site) t (bG E f a) m fun v ft=>k v f m ft
 |.store t a x=>wq E draw t (bG E f a) (bG E f x) m fun m ft=>k .top f m ft
 |.nilCheck x=>match bG E f x with
  |.pv (.rp cs)=>k (.pv (.rp cs)) f m []
  |.op id off=>k (.op id off) f m []
  |.oe id i off=>k (.oe id i off) f m []
  |.DJ id i off s j off2=>k (.DJ id i off s j off2) f m []
  |.fn g cs=>k (.fn g cs) f m []
  |.pv (.fn g cs)=>k (.pv (.fn g cs)) f m []
  |_=>none
 |.binOp op t x y _=>match bG E f x,bG E f y with
  |.pv (.rs _ es),.fO=>if draw then none else P1 E op t es fun b=>k (.pv (.bool b)) f m [(true,0)]
  |a,b=>Nj E op t y a b fun p=>k (.pv p) f m []
 |.unOp op _ x=>xun op (bG E f x) fun p=>k (.pv p) f m []
 |.convert s d x=>E0 E s d (bG E f x) m fun p ft=>k (.pv p) f m ft
 |.makeFunc (.func g) first caps=>bif Nat.blt g Hr then(if first.isEmpty then k (.fn g (caps.toList.map (bG E f))) f m []else if caps.isEmpty then k (.fn (g+Hr) (first.toList.map (bG E f))) f m []else none)else none
 |.makeMap t hint=>if LK E f hint=true then match E.P.underlying t with
  |some (.map kt et)=>if(vz E.P kt).isSome then(if E.EW site then(match E.P.underlying et with
   |some (.slice e)=>fresh draw site (.fu kt e []) f m fun f m ft=>k (.om site) f m ft
   |_=>none)
   else fresh draw site (.map kt []) f m fun f m ft=>k (.om site) f m ft)else none
  |_=>none
  else none
 |.makeSlice t l c=>tN E draw site t (bG E f l) (bG E f c) f m k
 |.slice t x lo hi mx=>yn E t (bG E f x) (lo.map (bG E f)) (hi.map (bG E f)) (mx.map (bG E f)) m fun v ft=>k v f m ft
 |.fieldAddr s x j=>kr E s (bG E f x) j fun v=>k v f m []
 |.field s x j=>Hw E s (bG E f x) j fun v=>k v f m []
 |.indexAddr t x ix=>dq E t (bG E f x) (bG E f ix) m fun v ft=>k v f m ft
 |.index t x ix=>E1 E t (bG E f x) (bG E f ix) fun v=>k v f m []
 |.lookup t x ix ok=>if E.EW site&& !ok then Nl E site t (bG E f x) (bG E f ix) m fun v m ft=>k v f m ft else yo E t (bG E f x) (bG E f ix) ok m fun v ft=>k v f m ft
 |.mapUpdate t x key v=>pS E draw t (bG E f x) (bG E f key) (bG E f v) m fun m ft=>k .top f m ft
 |.insert t x key v=>pS E draw t (bG E f x) (bG E f key) (bG E f v) m fun m ft=>k .top f m ft
 |.range t x=>if draw then none else P3 E site t (bG E f x) f m fun v f m=>k v f m [(true,0)]
 |.next x s=>if draw||s then none else WZ E (bG E f x) f m fun v f m=>k v f m [(true,0)]
 |.entry x=>if draw then none else P4 (bG E f x) m fun v m=>k v f m [(true,0)]
 |.extract t i=>match bG E f t with
  |.aG vs=>match vs[i]? with
   |some v=>k v f m []
   |none=>none
  |_=>none
 |.call c=>match c.callee,c.args.toList.map (bG E f)with
  |.builtin .len,[x]=>match c.argTypes.toList with
   |[t]=>Nk E t x m fun v ft=>k v f m ft
   |_=>none
  |.builtin .append,[s,x]=>match c.argTypes.toList with
   |[t,t']=>DP E draw site t t' s x f m fun v f m=>k v f m [(true,0)]
   |_=>none
  |.builtin .copy,[d,x]=>match c.argTypes.toList with
   |t::_=>Nn E t d x m fun v m ft=>k v f m ft
   |_=>none
  |.builtin .clear,[x]=>match c.argTypes.toList with
   |t::_=>Hy E t x m fun v m ft=>k v f m ft
   |_=>none
  |.builtin .min,[a,b]=>Np a b fun p=>k (.pv p) f m []
  |.builtin .max,[a,b]=>F7 a b fun p=>k (.pv p) f m []
  |.builtin .max,[a,b,c,d]=>Nq a b c d fun p=>k (.pv p) f m []
  |.value (.func g),args=>zs E draw site g args f m k
  |.value (.tmp t),args=>match bG E f (.tmp t)with
   |.fn g caps=>zs E draw site (zu g) (CG g caps args) f m k
   |.pv (.fn g caps)=>zs E draw site (zu g) (CG g (caps.map .pv) args) f m k
   |.yl id=>if draw then none else E.yl R E.fn.ntmps site id args f m fun v f m=>k v f m [(true,0)]
   |_=>none
  |_,_=>none
 |_=>none
noncomputable def Nr(draw:Bool)(site:Nat)(o:Oper)(f:Fr)(m:Mem)(k:V→Fr→Mem→bD→Option R):Option R:=
 match(bif draw then none else bif E.EW site then CF E site o f m else none)with
 |some sp=>xsp E site sp f m k
 |none=>cG E draw site o f m k
def fv(o:Oper):Bool:=
 match o.op with
 |.move _|.assign _|.pick .. |.load .. |.nilCheck _|.binOp .. |.unOp .. |.convert .. |.slice .. |.fieldAddr .. |.field .. |.indexAddr .. |.index .. |.lookup .. |.extract .. |.build .. =>true
 |.call {callee:=.builtin .len,.. }|.call {callee:=.builtin .min,.. }|.call {callee:=.builtin .max,.. }=>true
 |.call {callee:=.value _,.. }=>true
 |_=>false
def DQ:bD→Bool
 |[]=>true
 |(w,_)::r=> !w&&DQ r
abbrev Log:=List (Nat×Bool×Nat)
def HA(o:Oper)(j:Nat):Bool:=o.after.toList.any fun e=>Region.binds .any e&&Nat.beq e.on j
mutual
def V.ids:V→List Nat
 |.agg cs=>Ns cs
 |.aG cs=>Ns cs
 |.fn _ cs=>Ns cs
 |.os j=>[j]
 |.fS j _ _=>[j]
 |.oe j _ _=>[j]
 |.om j=>[j]
 |.zU j _ _=>[j]
 |.DJ j _ _ _ _ _=>[j]
 |.op j _=>[j]
 |.yl j=>[j]
 |.it j=>[j]
 |_=>[]
def Ns:List V→List Nat
 |[]=>[]
 |v::r=>v.ids++Ns r
end
def HB:Option bK→List Nat
 |some (.box cs)=>Ns cs
 |_=>[]
def BD(n:Nat):Nat:=n+2037035976334486086268445688409378161051468393665936250636140449354381299763336706183397376
def LL(m m':Mem):bD→List Nat
 |[]=>[]
 |x::r=>HB (m x.2)++HB (m' x.2)++LL m m' r
def G9(ops:Array Oper)(o:Oper)(f:Fr)(m m':Mem)(v:V)(ft:bD):List Nat:=Ns ((o.looksAt ops).map f)++v.ids++LL m m' ft
def cH(E:Env)(d:Option Nat):Nat:=match d with|some d=>E.fid*4096+d|none=>E.fid*4096+4095
def isApp(E:Env)(o:Oper):Bool:=E.EW (cH E o.dst)||match o.op with|.call {callee:=.builtin .append,.. }=>true|_=>false
def yq(E:Env)(f:Fr)(m:Mem)(o:Oper):Option (Nat×bD):=
 match o.op with
 |.call c=>match c.callee,c.args.toList.map (bG E f),c.argTypes.toList with
  |.builtin .append,[.os id,x],[t,_]=>match E.P.underlying t with
   |some (.slice e)=>match fD m (aV E.P e) x with
    |some (_,rd)=>if x.has id then none else some (id,rd)
    |none=>none
   |_=>none
  |_,_,_=>none
 |_=>none
def LM(E:Env)(f:Fr)(m:Mem)(o:Oper):Option (Kl×bD):=
 match(bif E.EW (cH E o.dst)then CF E (cH E o.dst) o f m else none)with
 |some sp=>some (sp.info (cH E o.dst))
 |none=>match yq E f m o with
  |some (id,rd)=>some ([(true,id)],(true,id)::rd)
  |none=>none
def reach(ops:Array Oper):Nat→Oper→Nat→Bool
 |0,o,j=>HA o j
 |n+1,o,j=>HA o j||o.after.toList.any fun e=>Region.binds .any e&&match ops[e.on]? with|some p=>reach ops n p j|none=>false
def R9(ops:Array Oper)(o:Oper)(w:Bool)(id:Nat):Log→Bool
 |[]=>true
 |(j,w',vq)::r=>(!(Nat.beq id vq)||(!w&& !w')||reach ops 4 o j)&&R9 ops o w id r
def E4(ops:Array Oper)(o:Oper)(lg:Log):bD→Bool
 |[]=>true
 |(w,id)::r=>R9 ops o w id lg&&E4 ops o lg r
def Ha(ops:Array Oper)(o:Oper)(id:Nat):Log→Bool
 |[]=>true
 |(j,_,n)::r=>(!(Nat.beq n (BD id))||reach ops 4 o j)&&Ha ops o id r
def BE(ops:Array Oper):List (Nat×Oper)→Oper→Bool
 |[],_=>true
 |(j,p)::r,o=>(p.apart ops o||reach ops 4 o j)&&BE ops r o
def qq(ops:Array Oper):List (Nat×Oper)→List (Nat×Oper)→Bool
 |_,[]=>true
 |done,(i,o)::r=>o.after.toList.all (fun e=> !(Region.binds .any e)||Nat.blt e.on i)&&BE ops done o&&qq ops ((i,o)::done) r
def guardOf(o:Oper)(A:List (Nat×Bool)):Option (Nat×Bool):=
 match o.guard with
 |none=>none
 |some g=>if A.elem g then none else some g
def F8(A:List (Nat×Bool)):List (Nat×Oper)→List (Nat×Oper)×List (Nat×Oper)
 |[]=>([],[])
 |x::r=>match guardOf x.2 A with
  |some _=>let(a,b):=F8 A r;(x::a,b)
  |none=>([],x::r)
def nJ(f:Fr):List (Nat×Oper)→Fr
 |[]=>f
 |x::r=>nJ (jy f x.2.dst .top) r
def zY(g:Nat×Bool):List Nat→List (Nat×Oper)→Bool
 |_,[]=>true
 |done,x::r=>(match x.2.guard with
  |some h=>(Nat.beq h.1 g.1&&(h.2==g.2))||done.elem h.1
  |none=>false)&&zY g (x.1::done) r
def blind(ops:Array Oper)(body:List (Nat×Oper))(o:Oper):Bool:=body.all fun y=>match y.2.dst with
  |some d=> !((o.looksAt ops).elem d)
  |none=>true
def W0:Bool→Bool→Bool
 |true,b=>b
 |false,b=> !b
def jc(f:Fr):List (Nat×Oper)→Fr
 |[]=>f
 |x::r=>jc (jy f x.2.dst (.aG [])) r
def Ci:V→Option Bool
 |.pv (.bool b)=>some b
 |_=>none
end
def zZ(E:Env)(o:Oper):Bool:=match o.dst with|some d=>Nat.blt d E.fn.ntmps|none=>true
def LN(E:Env)(g:FuncId):Bool:=match E.P.funcs[g]? with|some fn=>fn.resultTypes.toList.all (yp E)|none=>false
def abg(E:Env)(f:Fr)(body:List (Nat×Oper))(o:Oper):Bool:=
 fv o&&match o.op with
 |.call {callee:=.value (.func g),.. }=>(E.ctx g).isSome&&LN E g
 |.call {callee:=.value (.tmp t),.. }=>match(match body.find? (fun x=>x.2.dst==some t)with
  |some (_,p)=>(match p.op with
   |.move y=>bG E f y
   |.assign y=>bG E f y
   |_=>.top)
  |none=>bG E f (.tmp t))with
  |.fn g _=>(E.ctx (zu g)).isSome&&LN E (zu g)
  |.pv (.fn g _)=>(E.ctx (zu g)).isSome&&LN E (zu g)
  |.yl _=>false
  |_=>true
 |_=>true
noncomputable def cp(E:Env)(ops:Array Oper)(mode:Nat):(fuel:Nat)→(R:Type)→List (Nat×Bool)→List (Nat×Oper)→Fr→Mem→Log→(Fr→Mem→Option R)→Option R
 |0,_,_,_,_,_,_,_=>none
 |_+1,_,_,[],f,m,_,k=>k f m
 |fuel+1,R,A,(i,o)::rest,f,m,lg,k=>
  match guardOf o A with
  |none=>
   if zZ E o then
    match(bif Nat.beq mode 2 then LM E f m o else none)with
    |some (kl,ft)=>
     if E4 ops o lg ft&&kl.all (fun x=>Ha ops o x.2 lg)&&rest.all (fun x=>reach ops 4 x.2 i)then Nr E false (cH E o.dst) o f m fun v f1 m1 _=>cp E ops mode fuel R A rest (jy f1 o.dst v) m1 (ft.map (fun x=>(i,x))++lg) k
     else none
    |none=>Nr E (Nat.beq mode 1||Nat.beq mode 2) (cH E o.dst) o f m fun v f1 m1 ft=>
      if Nat.beq mode 2 then(if E4 ops o lg ft then cp E ops mode fuel R A rest (jy f1 o.dst v) m1 ((bif ops.toList.any (isApp E)then(G9 ops o f m m1 v ft).map (fun n=>(i,false,BD n))else[])++(ft.map (fun x=>(i,x))++lg)) k else none)
      else if Nat.beq mode 0 then cp E ops mode fuel R A rest (jy f1 o.dst v) m1 lg k
      else if DQ ft then cp E ops mode fuel R A rest (jy f1 o.dst v) m1 lg k
      else none
   else none
  |some (j,GZ)=>
   match((ops[j]?).bind (·.dst))with
   |some tj=>match bG E f (.tmp tj)with
    |.pv (.bool b)=>
     match F8 A ((i,o)::rest)with
     |(body,Nt)=>
     if Nat.beq mode 0&& !(body.all fun x=>abg E f body x.2)then
      (if(body.all fun x=>zZ E x.2)&&zY (j,GZ) [] body&&((i,o)::rest).all (fun x=> !(x.2.dst==some tj))then
       bif W0 GZ b then cp E ops mode fuel R ((j,GZ)::A) ((i,o)::rest) (gy f tj (.pv (.bool GZ))) m lg k
       else cp E ops mode fuel R A Nt (jc (gy f tj (.pv (.bool !GZ))) body) m lg k
      else none)
     else match Nt with
     |(_,p)::nK=>
      match p.op with
      |.pick (.tmp c) x y=>
       if Nat.beq c tj&&(guardOf p A).isNone&&body.all (fun x=>fv x.2&&zZ E x.2&& !(x.2.dst==some tj))&&zY (j,GZ) [] body&&nK.all (fun x=>blind ops body x.2)&&zZ E p&& !(Nat.beq mode 2)then
        (match GZ with
         |true=>bif b then cp E ops (bif Nat.beq mode 0 then 3 else mode) fuel Bool ((j,GZ)::A) body f m lg (fun f _=>Ci (bG E f x))else Ci (bG E (nJ f body) y)
         |false=>bif b then Ci (bG E (nJ f body) x)else cp E ops (bif Nat.beq mode 0 then 3 else mode) fuel Bool ((j,GZ)::A) body f m lg (fun f _=>Ci (bG E f y))).bind fun r=>
        cp E ops mode fuel R A nK (jy (nJ f body) p.dst (.pv (.bool r))) m lg k
       else none
      |_=>none
     |[]=>none
    |_=>none
   |none=>none
inductive Ex where
 |normal
 |exit (id:Nat)
 |ret
def Nu{R:Type}(body:Fr→Mem→(Fr→Mem→Option R)→Option R):Nat→Fr→Mem→Option R
 |0,_,_=>none
 |n+1,f,m=>body f m (Nu body n)
def BF:Code→Nat
 |.region id _ _=>id
 |.seq a _=>BF a
 |.cond _ a _=>BF a
 |.block _ b=>BF b
 |.loop b=>BF b
 |.scope b=>BF b
 |_=>0
def Sa:List Sh→Type→Type
 |[],T=>T
 |.raw::r,T=>PV×Sa r T
 |.int _::r,T=>Int×Sa r T
 |.bool::r,T=>Bool×Sa r T
 |.str::r,T=>Bytes×Sa r T
 |.rs _::r,T=>List PV×Sa r T
 |.rp _::r,T=>PV×Sa r T
 |.fs _::r,T=>List PV×Sa r T
 |.row _ _::r,T=>Int×Sa r T
 |.own _::r,T=>Sa r T
def M8:List (Nat×G8)→Type
 |[]=>Unit
 |(_,.box cs)::r=>Sa cs (M8 r)
 |(_,.arr _ _)::r=>List PV×M8 r
 |(_,.tC _ _)::r=>List PV×M8 r
 |(_,.map _)::r=>List (PV×PV)×M8 r
 |(_,.nest _ _)::r=>List PV×M8 r
 |(_,.fu _ _)::r=>List (PV×PV)×M8 r
 |(_,.loop)::r=>M8 r
 |(_,.busy)::r=>M8 r
 |(_,.iter _)::r=>List (PV×PV)×M8 r
def Kj.kh(T:Kj):List Sh:=T.bY.map Prod.snd
abbrev Kj.ty(T:Kj):Type:=Sa T.kh (M8 T.CE)
mutual
def V.same:V→V→Bool
 |.op i o,.op j p=>Nat.beq i j&&Nat.beq o p
 |.oe i a o,.oe j b p=>Nat.beq i j&&Nat.beq a b&&Nat.beq o p
 |.os i,.os j=>Nat.beq i j
 |.om i,.om j=>Nat.beq i j
 |.yl i,.yl j=>Nat.beq i j
 |.it i,.it j=>Nat.beq i j
 |.fO,.fO=>true
 |.pv .tJ,.pv .tJ=>true
 |.pv .rr,.pv .rr=>true
 |.pv (.int q x),.pv (.int q' y)=>decide (q=q')&&decide (x=y)
 |.fn f cs,.fn g ds=>Nat.beq f g&&Kn cs ds
 |_,_=>false
def Kn:List V→List V→Bool
 |[],[]=>true
 |a::as,b::bs=>a.same b&&Kn as bs
 |_,_=>false
end
section
variable {R:Type}
def kj{T:Type}:(kh:List Sh)→List V→T→(Sa kh T→Option R)→Option R
 |[],[],t,k=>k t
 |.int q::kh,.pv (.int q' n)::vs,t,k=>if q'=q then kj kh vs t (fun r=>k (n,r))else none
 |.raw::kh,.pv p::vs,t,k=>kj kh vs t (fun r=>k (p,r))
 |.bool::kh,.pv (.bool b)::vs,t,k=>kj kh vs t (fun r=>k (b,r))
 |.str::kh,.pv (.str s)::vs,t,k=>kj kh vs t (fun r=>k (s,r))
 |.rs sz::kh,.pv (.rs JK es)::vs,t,k=>if JK=sz then kj kh vs t (fun r=>k (es,r))else none
 |.rp n::kh,.pv (.rp cs)::vs,t,k=>if cs.length=n then kj kh vs t (fun r=>k (.agg cs,r))else none
 |.fs s::kh,.pv p::vs,t,k=>(rdL s p).bind fun ls=>kj kh vs t (fun r=>k (ls,r))
 |.row id off::kh,.zU vq i yr::vs,t,k=>if vq=id∧yr=off then kj kh vs t (fun r=>k ((i:Int),r))else none
 |.own v::kh,u::vs,t,k=>if v.same u then kj kh vs t k else none
 |_,_,_,_=>none
def xA(m:Mem):(bs:List (Nat×G8))→(M8 bs→Option R)→Option R
 |[],k=>k ()
 |(id,.box cs)::r,k=>match m id with
  |some (.box vs)=>xA m r fun t=>kj (T:=M8 r) cs vs t k
  |_=>none
 |(id,.arr sz et)::r,k=>match m id with
  |some (.arr JK JL es)=>if JK=sz∧JL=et then xA m r fun t=>k (es,t)else none
  |_=>none
 |(id,.tC sz et)::r,k=>match m id with
  |some (.tC JK JL es)=>if JK=sz∧JL=et then xA m r fun t=>k (es,t)else none
  |_=>none
 |(id,.map kt)::r,k=>match m id with
  |some (.map zR es)=>if zR=kt then xA m r fun t=>k (es,t)else none
  |_=>none
 |(id,.nest sz et)::r,k=>match m id with
  |some (.nest JK JL es)=>if JK=sz∧JL=et then xA m r fun t=>k (es,t)else none
  |_=>none
 |(id,.fu kt e)::r,k=>match m id with
  |some (.fu zR e' es)=>if zR=kt∧e'=e then xA m r fun t=>k (es,t)else none
  |_=>none
 |(id,.loop)::r,k=>match m id with
  |some (.loop .ready)=>xA m r k
  |_=>none
 |(id,.busy)::r,k=>match m id with
  |some (.loop .busy)=>xA m r k
  |_=>none
 |(id,.iter t)::r,k=>match m id with
  |some (.iter t' es none)=>if t'=t then xA m r fun u=>k (es,u)else none
  |_=>none
def Sh.within(M:List Nat):Sh→Bool
 |.own v=>v.within M
 |.row id _=>M.elem id
 |_=>true
def G8.within(M:List Nat):G8→Bool
 |.box cs=>cs.all (·.within M)
 |_=>true
def Kj.ok(T:Kj):Bool:=T.bY.all (fun x=>x.2.within (T.CE.map (·.1)))&&T.CE.all (fun x=>x.2.within (T.CE.map (·.1)))
def HC:List Sh→List V→Bool
 |[],[]=>true
 |.raw::kh,.pv _::vs=>HC kh vs
 |.int q::kh,.pv (.int q' _)::vs=>decide (q'=q)&&HC kh vs
 |.bool::kh,.pv (.bool _)::vs=>HC kh vs
 |.str::kh,.pv (.str _)::vs=>HC kh vs
 |.rs sz::kh,.pv (.rs JK _)::vs=>Nat.beq JK sz&&HC kh vs
 |.rp n::kh,.pv (.rp cs)::vs=>Nat.beq cs.length n&&HC kh vs
 |.fs s::kh,.pv p::vs=>(rdL s p).isSome&&HC kh vs
 |.row id off::kh,.zU vq _ yr::vs=>Nat.beq vq id&&Nat.beq yr off&&HC kh vs
 |.own v::kh,u::vs=>v.same u&&HC kh vs
 |_,_=>false
def JR(m:Mem):List (Nat×G8)→Bool
 |[]=>true
 |(id,.box cs)::r=>(match m id with|some (.box vs)=>HC cs vs|_=>false)&&JR m r
 |(id,.arr sz _)::r=>(match m id with|some (.arr JK _ _)=>Nat.beq JK sz|_=>false)&&JR m r
 |(id,.tC sz _)::r=>(match m id with|some (.tC JK _ _)=>Nat.beq JK sz|_=>false)&&JR m r
 |(id,.map _)::r=>(match m id with|some (.map _ _)=>true|_=>false)&&JR m r
 |(id,.nest sz _)::r=>(match m id with|some (.nest JK _ _)=>Nat.beq JK sz|_=>false)&&JR m r
 |(id,.fu _ _)::r=>(match m id with|some (.fu _ _ _)=>true|_=>false)&&JR m r
 |(id,.loop)::r=>(match m id with|some (.loop .ready)=>true|_=>false)&&JR m r
 |(id,.busy)::r=>(match m id with|some (.loop .busy)=>true|_=>false)&&JR m r
 |(id,.iter _)::r=>(match m id with|some (.iter _ _ none)=>true|_=>false)&&JR m r
def fits(f:Fr)(m:Mem)(T:Kj):Bool:=JR m T.CE&&HC T.kh (T.bY.map fun(x:Nat×Sh)=>f x.1)
def enc(T:Kj)(f:Fr)(m:Mem)(k:T.ty→Option R):Option R:=if T.ok then xA m T.CE fun t=>kj (T:=M8 T.CE) T.kh (T.bY.map fun(x:Nat×Sh)=>f x.1) t k else none
end
def vr{T:Type}:(kh:List Sh)→Sa kh T→List V×T
 |[],t=>([],t)
 |.int q::kh,x=>let r:=vr kh x.2;(.pv (.int q x.1)::r.1,r.2)
 |.raw::kh,x=>let r:=vr kh x.2;(.pv x.1::r.1,r.2)
 |.bool::kh,x=>let r:=vr kh x.2;(.pv (.bool x.1)::r.1,r.2)
 |.str::kh,x=>let r:=vr kh x.2;(.pv (.str x.1)::r.1,r.2)
 |.rs sz::kh,x=>let r:=vr kh x.2;(.pv (.rs sz x.1)::r.1,r.2)
 |.rp n::kh,x=>let r:=vr kh x.2;(.pv (.rp (aQ n x.1))::r.1,r.2)
 |.fs s::kh,x=>let r:=vr kh x.2;(.pv (LH s ((List.range s.n).map fun j=>x.1.getD j .bad)).1::r.1,r.2)
 |.row id off::kh,x=>let r:=vr kh x.2;(.zU id x.1.toNat off::r.1,r.2)
 |.own v::kh,x=>let r:=vr (T:=T) kh x;(v::r.1,r.2)
def gV:(bs:List (Nat×G8))→M8 bs→List (Nat×Option bK)
 |[],_=>[]
 |(id,.box cs)::r,x=>let y:=vr (T:=M8 r) cs x;(id,some (.box y.1))::gV r y.2
 |(id,.arr sz et)::r,x=>(id,some (.arr sz et x.1))::gV r x.2
 |(id,.tC sz et)::r,x=>(id,some (.tC sz et x.1))::gV r x.2
 |(id,.map kt)::r,x=>(id,some (.map kt x.1))::gV r x.2
 |(id,.nest sz et)::r,x=>(id,some (.nest sz et x.1))::gV r x.2
 |(id,.fu kt e)::r,x=>(id,some (.fu kt e x.1))::gV r x.2
 |(id,.loop)::r,x=>(id,some (.loop .ready))::gV (r:List (Nat×G8)) x
 |(id,.busy)::r,x=>(id,some (.loop .busy))::gV (r:List (Nat×G8)) x
 |(id,.iter t)::r,x=>(id,some (.iter t x.1 none))::gV r x.2
def tO:List (Nat×Sh)→List V→List (Nat×V)
 |(t,_)::r,v::vs=>(t,v)::tO r vs
 |_,_=>[]
def P6(T:Kj)(x:T.ty):Fr:=P0 (tO T.bY (vr (T:=M8 T.CE) T.kh x).1)
def HD(T:Kj)(x:T.ty):Mem:=Hq (gV T.CE (vr (T:=M8 T.CE) T.kh x).2)
def F9{A:Type}:List (Nat×Nat)→Fr→Mem→(Fr→Mem→A)→A
 |[],f,m,k=>k f m
 |(t,sz)::r,f,m,k=>match f t with
  |.os id=>match m id with
   |some (.arr s et es)=>F9 r (gy f t (.pv (.rs s es))) (aw m id (.tC s et es)) k
   |some (.tC s _ es)=>F9 r (gy f t (.pv (.rs s es))) m k
   |_=>F9 r f m k
  |.fO=>F9 r (gy f t (.pv (.rs sz []))) m k
  |_=>F9 r f m k
def Ko{A:Type}:List (Nat×Nat×Nat)→Mem→(Mem→A)→A
 |[],m,k=>k m
 |(id,j,sz)::r,m,k=>match m id with
  |some (.box cs)=>match cs[j]? with
   |some .fO=>Ko r (aw m id (.box (cs.set j (.pv (.rs sz []))))) k
   |_=>Ko r m k
  |_=>Ko r m k
def Ga{A:Type}(P:Program):List (Nat×Nat×Nat×TypeId)→Mem→(Mem→A)→A
 |[],m,k=>k m
 |(id,j,W2,et)::r,m,k=>match m id with
  |some (.box cs)=>match cs[j]? with
   |some .fO=>match m W2 with
    |none=>if 0<aV P et then Ga P r (aw (aw m W2 (.arr (aV P et) et [])) id (.box (cs.set j (.os W2)))) k else Ga P r m k
    |some _=>Ga P r m k
   |_=>Ga P r m k
  |_=>Ga P r m k
def Nv{A:Type}:List Nat→Mem→(Mem→A)→A
 |[],m,k=>k m
 |id::r,m,k=>match m id with
  |some (.arr s et es)=>Nv r (aw m id (.nest s et es)) k
  |_=>Nv r m k
def Gb{A:Type}:List (Nat×Nat)→Fr→Mem→(Fr→Mem→A)→A
 |[],f,m,k=>k f m
 |(id,j)::r,f,m,k=>match m id with
  |some (.box cs)=>match cs[j]? with
   |some (.fS a 0 len)=>match m a with
    |some (.arr s et es)=>if Nat.beq a id then Gb r f m k else Gb r (fa a f) (aw (aw (bx (bI a m) a) a (.arr s et (es.take len))) id (.box ((cs.map (vA a)).set j (.os a)))) k
    |_=>Gb r f m k
   |_=>Gb r f m k
  |_=>Gb r f m k
def Kp{A:Type}(P:Program)(T:Kj)(f:Fr)(m:Mem)(k:Fr→Mem→A):A:=Gb T.ct f m fun f m=>Ga P T.bo m fun m=>Ko T.bz m fun m=>Nv T.nz m fun m=>F9 T.fz f m k
variable{R:Type}
def Ex.Nx(k1:Fr→Mem→Option R)(k:Ex→Fr→Mem→Option R):Ex→Fr→Mem→Option R
 |.normal,f,m=>k1 f m
 |e,f,m=>k e f m
def Ex.W3(id:Nat)(k:Ex→Fr→Mem→Option R):Ex→Fr→Mem→Option R
 |.exit j,f,m=>if j=id then k .normal f m else k (.exit j) f m
 |e,f,m=>k e f m
def Ex.jmp:Ex→Option Jmp
 |.normal=>none
 |.exit id=>some (.exit id)
 |.ret=>some .ret
def Jmp.ex:Jmp→Ex
 |.ret=>.ret
 |.exit id=>.exit id
def Sb(n:Nat)(g f:Fr):Fr:=fun t=>bif Nat.blt t n then g t else f (t-n)
def HE:List Nat→List V→Fr→Fr
 |p::ps,v::vs,f=>HE ps vs (gy f p v)
 |_,_,f=>f
def roundOf(as b:Fr→Mem→(Ex→Fr→Mem→Option R)→Option R)(lid n:Nat)(ps:List Nat)(nt:Nat)(args:List V)(F:Fr)(m:Mem)(k:V→Fr→Mem→Option R):Option R:=
 match m lid with
 |some (.loop .ready)=>if args.length=ps.length then
  as (Sb n (HE ps args (zX nt F)) F) m fun e f m=>match e,m lid with
   |.normal,some (.loop .ready)=>b f (aw m lid (.loop .busy)) fun e f m=>match m lid with
    |some (.loop .busy)=>match e.jmp with
     |none=>k (.pv (.bool true)) (zX n f) (aw m lid (.loop .ready))
     |some j=>k (.pv (.bool false)) (zX n f) (aw m lid (.loop (.done j)))
    |_=>none
   |_,_=>none
  else none
 |_=>none
def adD:V→Option (FuncId×List V)
 |.fn g caps=>bif Nat.blt g Hr then some (g,caps)else none
 |.pv (.fn g caps)=>bif Nat.blt g Hr then some (g,caps.map .pv)else none
 |_=>none
def afZ(E:Env)(o:Oper):Bool:=match o.op with
 |.call c=>match c.callee with
  |.value (.func g)=>(E.ctx g).isNone&&(E.own g).isNone
  |_=>false
 |_=>false
def af0(E:Env)(o:Oper):Bool:=match o.op with
 |.call c=>match c.callee with
  |.value (.func g)=>(E.ctx g).isNone&&(E.own g).isSome
  |_=>false
 |_=>false
def abh(E:Env)(ops:Array Oper):Option Nat:=ops.toList.findIdx? (afZ E)
def W4(ops:Array Oper)(p:Nat):Bool:=match ops[p]? with
 |none=>false
 |some o=>o.guard.isNone&&o.after.toList.all (fun e=> !(Region.binds .any e)||Nat.blt e.on p)&&((List.range ops.size).zip ops.toList).all fun x=>bif Nat.blt x.1 p then reach ops 8 o x.1 else Nat.beq x.1 p||reach ops 8 x.2 p
def LO(E:Env)(ops:Array Oper)(x:Nat×Oper):Bool:=((List.range ops.size).zip ops.toList).any fun y=>isApp E y.2&&(Nat.beq x.1 y.1||reach ops 4 x.2 y.1)
def DR(E:Env)(ops:Array Oper):List (Nat×Oper):=
 bif E.EW (2000000000000000000000000000000+E.fid)then((List.range ops.size).zip ops.toList).filter (fun x=> !LO E ops x)++((List.range ops.size).zip ops.toList).filter (LO E ops)
 else(List.range ops.size).zip ops.toList
noncomputable def fJ:(E:Env)→{R:Type}→Code→Fr→Mem→(Ex→Fr→Mem→Option R)→Option R
 |E,_,.skip,f,m,k=>k .normal f m
 |E,R,.region _ ops draw,f,m,k=>
  if draw then
   match abh E ops with
   |some p=>if W4 ops p&&qq ops [] (((List.range ops.size).zip ops.toList).take p)&&qq ops [] (((List.range ops.size).zip ops.toList).drop (p+1))then
     cp E ops 2 (ops.size+1) R [] (((List.range ops.size).zip ops.toList).take p) f m [] fun f m=>
     cp E ops 0 3 R [] ((((List.range ops.size).zip ops.toList).drop p).take 1) f m [] fun f m=>
     cp E ops 2 (ops.size+1) R [] (((List.range ops.size).zip ops.toList).drop (p+1)) f m [] fun f m=>k .normal f m
    else none
   |none=>
   (if qq ops [] (DR E ops)then
    (if ops.toList.all (fun o=>fv o&& !af0 E o)then cp E ops 1 (ops.size+1) R [] (DR E ops) f m [] fun f m=>k .normal f m
    else cp E ops 2 (ops.size+1) R [] (DR E ops) f m [] fun f m=>k .normal f m)
   else none)
  else cp E ops 0 (ops.size+ops.size+1) R [] ((List.range ops.size).zip ops.toList) f m [] fun f m=>k .normal f m
 |E,R,.seq a b,f,m,k=>fJ E a f m (Ex.Nx (fun f m=>fJ E b f m k) k)
 |E,R,.cond c a b,f,m,k=>match c,bG E f c with
  |.tmp x,.pv (.bool t)=>if t then fJ E a (gy f x (.pv (.bool true))) m k else fJ E b (gy f x (.pv (.bool false))) m k
  |_,_=>none
 |E,R,.block id b,f,m,k=>fJ E b f m (Ex.W3 id k)
 |E,R,.loop b,f,m,k=>match(E.hint E.fid (BF b)).find? (fun T=>Kp E.P T f m fun f m=>fits f m T)with
  |some T=>Kp E.P T f m fun f m=>enc T f m (E.lp.run fun s rec=>fJ E b (P6 T s) (HD T s) (Ex.Nx (fun f m=>Kp E.P T f m fun f m=>enc T f m rec) k))
  |none=>Nu (fun f m rec=>fJ E b f m (Ex.Nx rec k)) E.u f m
 |E,R,.exit id,f,m,k=>k (.exit id) f m
 |E,R,.ret,f,m,k=>k .ret f m
 |E,R,.label _,f,m,k=>k .normal f m
 |E,R,.scope b,f,m,k=>fJ E b f m k
 |E,R,.rangeFunc g ps as b,f,m,k=>if E.rdb then none else match ps.toList with
  |p0::_=>fresh true (cH E (some p0)) (.loop .ready) f m fun f m _=>match adD (bG E f g)with
   |some (gid,caps)=>E.rng R gid (cH E (some p0)*4096+gid) (fun _ nt site id args F m k=>bif Nat.beq id (cH E (some p0))then
     roundOf (fJ {E with fid:=site*4096+E.fid%4096,yl:=EV,rdb:=true} as) (fJ {E with fid:=site*4096+E.fid%4096,yl:=EV,rdb:=true} b) (cH E (some p0)) E.fn.ntmps ps.toList nt args F m k
     else none)
    (.yl (cH E (some p0))::caps) f m fun _ f m=>match m (cH E (some p0))with
     |some (.loop .ready)=>k .normal (fa (cH E (some p0)) f) (bx (bI (cH E (some p0)) m) (cH E (some p0)))
     |some (.loop (.done j))=>k j.ex (fa (cH E (some p0)) f) (bx (bI (cH E (some p0)) m) (cH E (some p0)))
     |_=>none
   |_=>none
  |[]=>none
 |_,_,_,_,_,_=>none
def DS(E:Env){R:Type}(f:Fr)(m:Mem):List ResultVar→(List V→Option R)→Option R
 |[],k=>k []
 |.tmp t::rs,k=>DS E f m rs fun vs=>k (bG E f (.tmp t)::vs)
 |.cell a t::rs,k=>sH E false t (bG E f (.tmp a)) m fun v _=>DS E f m rs fun vs=>k (v::vs)
def W5(E:Env)(rs:List ResultVar)(f:Fr)(m:Mem):Option PV:=DS E f m rs fun vs=>match vs with
  |[v]=>lz m eP v
  |vs=>(sR (lz m eP) vs).bind fun ps=>some (.aG ps)
section
variable {R:Type} (E:Env)
def LP(t:TypeId)(p:PV)(k:PV→Option R):Option R:=
 match E.P.underlying t with
 |some (.int _)=>iD E t p k
 |some .bool=>iD E t p k
 |some .string=>iD E t p k
 |some (.slice _)=>iD E t p k
 |some (.map _ _)=>iD E t p k
 |_=>k p
def sT:List TypeId→List PV→(List PV→Option R)→Option R
 |t::ts,p::ps,k=>LP E t p fun q=>sT ts ps fun qs=>k (q::qs)
 |_,ps,k=>k ps
def Sc(n:Nat)(p:PV)(a:Option R)(b:PV→Option R):Option R:=
 match p with
 |.tJ=>a
 |.rp cs=>if n≤cs.length then b (.agg cs)else none
 |_=>none
def W6(t:TypeId)(p:PV)(k:PV→Option R):Option R:=
 match E.P.underlying t with
 |some (.struct _)=>(asAgg (aV E.P t) p).bind fun _=>match Hz E.P 8 t with
  |some ts=>sT E ts (aQ (aV E.P t) p) fun cs=>k (.agg cs)
  |none=>none
 |some (.array _ _)=>(asAgg (aV E.P t) p).bind fun _=>match Hz E.P 8 t with
  |some ts=>sT E ts (aQ (aV E.P t) p) fun cs=>k (.agg cs)
  |none=>none
 |some (.pointer e)=>Sc (aV E.P e) p (k .tJ) fun q=>match Hz E.P 8 e with
  |some ts=>sT E ts (aQ (aV E.P e) q) fun cs=>k (.rp cs)
  |none=>none
 |_=>LP E t p k
def CH:List TypeId→List PV→(List PV→Option R)→Option R
 |t::ts,p::ps,k=>W6 E t p fun q=>CH ts ps fun qs=>k (q::qs)
 |_,ps,k=>k ps
end
def HF(args:List V):Fr:=fun t=>args.getD t .top
noncomputable def Hb(E:Env)(args:List V)(f:Fr)(m:Mem)(k:V→Fr→Mem→Option R):Option R:=
 match E.fn.body with
 |some c=>if args.length≤E.fn.ntmps then fJ E c (zt E.fn.ntmps args f) m (fun e f m=>match e with
  |.exit _=>none
  |_=>DS E f m E.fn.results.toList fun vs=>match vs with
   |[v]=>k v (zX E.fn.ntmps f) m
   |vs=>k (.aG vs) (zX E.fn.ntmps f) m)else none
 |none=>none
def adE(E:Env)(f:Fr)(m:Mem):Option PV:=
 match E.fn.resultTypes.toList with
 |[t]=>match E.P.underlying t with
  |some (.slice e)=>DS E f m E.fn.results.toList fun vs=>match vs with
   |[.os id]=>match m id with
    |some (.arr sz et es)=>if sz=aV E.P e∧et=e then some (.rs sz es)else none
    |_=>none
   |[.fS id 0 len]=>match m id with
    |some (.arr sz et es)=>if sz=aV E.P e∧et=e then some (.rs sz (es.take len))else none
    |_=>none
   |_=>none
  |_=>none
 |_=>none
noncomputable def qt(E:Env)(args:List PV):Option PV:=
 match E.fn.body with
 |some c=>if args.length≤E.fn.ntmps then CH E E.fn.params.toList args fun vs=>fJ E c (HF (vs.map .pv)) (fun _=>none) (fun e f m=>match e with
  |.exit _=>none
  |_=>adE E f m)else none
 |none=>none
noncomputable def fm(E:Env)(args:List PV):Option PV:=
 match E.fn.body with
 |some c=>if args.length≤E.fn.ntmps then CH E E.fn.params.toList args fun vs=>fJ E c (HF (vs.map .pv)) (fun _=>none) (fun e f m=>match e with
  |.normal=>W5 E E.fn.results.toList f m
  |.ret=>W5 E E.fn.results.toList f m
  |.exit _=>none)else none
 |none=>none
end Go.Ab
