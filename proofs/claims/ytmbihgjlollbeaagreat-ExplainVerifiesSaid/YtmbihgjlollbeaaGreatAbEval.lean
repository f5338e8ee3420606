import Derived.Test.YtmbihgjlollbeaaGreatAbDefs
import Derived.Deep.Quiet
set_option linter.all false
namespace Go.Ab
inductive FS where
 |raw
 |fn (g:FuncId) (caps:List FS)
 |ptr (cells:List FS)
mutual
def rdL:FS→PV→Option (List PV)
 |.raw,p=>some [p]
 |.fn g cs,.fn g' qs=>if g'=g then QZ cs qs else none
 |.ptr cs,.rp qs=>QZ cs qs
 |_,_=>none
def QZ:List FS→List PV→Option (List PV)
 |[],[]=>some []
 |s::ss,p::ps=>(rdL s p).bind fun a=>(QZ ss ps).bind fun b=>some (a++b)
 |_,_=>none
end
mutual
def Pj:FS→List PV→PV×List PV
 |.raw,[]=>(.bad,[])
 |.raw,p::r=>(p,r)
 |.fn g cs,l=>(.fn g (Ja cs l).1,(Ja cs l).2)
 |.ptr cs,l=>(.rp (Ja cs l).1,(Ja cs l).2)
def Ja:List FS→List PV→List PV×List PV
 |[],l=>([],l)
 |s::ss,l=>((Pj s l).1::(Ja ss (Pj s l).2).1,(Ja ss (Pj s l).2).2)
end
mutual
def FS.n:FS→Nat
 |.raw=>1
 |.fn _ cs=>nFs cs
 |.ptr cs=>nFs cs
def nFs:List FS→Nat
 |[]=>0
 |s::ss=>s.n+nFs ss
end
inductive Sh where
 |raw
 |int (q:IntKind)
 |bool
 |str
 |rs (sz:Nat)
 |rp (n:Nat)
 |fs (s:FS)
 |row (id off:Nat)
 |own (v:V)
inductive GH where
 |box (cs:List Sh)
 |arr (sz:Nat) (et:TypeId)
 |vK (sz:Nat) (et:TypeId)
 |map (kt:TypeId)
 |nest (sz:Nat) (et:TypeId)
 |fU (kt e:TypeId)
 |loop
 |busy
 |iter (t:TypeId)
structure NL where
 cj:List (Nat×Sh)
 FB:List (Nat×GH)
 fz:List (Nat×Nat):=[]
 bz:List (Nat×Nat×Nat):=[]
 bo:List (Nat×Nat×Nat×TypeId):=[]
 nz:List Nat:=[]
 ct:List (Nat×Nat):=[]
structure bk where
 run:{S R:Type}→(S→(S→Option R)→Option R)→S→Option R
 room:Nat→Bool
 A5:∀n,room n=true→(n:Int)≤IntKind.i64.max
def cE{S R:Type}(body:S→(S→Option R)→Option R):Nat→S→Option R
 |0,_=>none
 |n+1,s=>body s (cE body n)
abbrev YL:=(R:Type)→Nat→Nat→Nat→List V→Fr→Mem→(V→Fr→Mem→Option R)→Option R
def HX:YL:=fun _ _ _ _ _ _ _ _=>none
structure Env where
 P:Program
 ctx:FuncId→Option (List PV→Option PV)
 aW:Nat→Option (List PV)
 fid:FuncId
 fn:Func
 lp:bk
 hint:Nat→Nat→List NL
 u:Nat
 own:FuncId→Option (List PV→Option PV)
 inl:(R:Type)→FuncId→Nat→List V→Fr→Mem→(V→Fr→Mem→Option R)→Option R
 rng:(R:Type)→FuncId→Nat→YL→List V→Fr→Mem→(V→Fr→Mem→Option R)→Option R
 yl:YL
 rdb:Bool:=false
 fnr:FuncId→Option FS:=fun _=>none
 Kc:Nat→Bool:=fun _=>false
section
variable {R:Type} (E:Env)
def da(kt:TypeId)(p:PV)(a:Option R)(b:List PV→List PV→Option R):Option R:=
 match p with
 |.A3=>a
 |.rm Cx ks vs=>if Cx=kt then b ks vs else none
 |_=>none
def jE(t:TypeId)(p:PV)(k:PV→Option R):Option R:=
 match E.P.underlying t with
 |some (.int q)=>(asInt q p).bind fun n=>k (.int q n)
 |some .bool=>(asBool p).bind fun b=>k (.bool b)
 |some .string=>(aO p).bind fun s=>k (.str s)
 |some (.slice e)=>(ao (bj E.P e) p).bind fun es=>k (.rs (bj E.P e) es)
 |some (.struct _)=>(asAgg (bj E.P t) p).bind fun _=>k (.agg (aQ (bj E.P t) p))
 |some (.array _ _)=>(asAgg (bj E.P t) p).bind fun _=>k (.agg (aQ (bj E.P t) p))
 |some (.pointer _)=>match p with
  |.vT=>k p
  |.rp _=>k p
  |_=>none
 |some (.map kt _)=>da kt p (k .A3) fun ks vs=>k (.rm kt ks vs)
 |some (.func _ _ _)=>match p with
  |.JW=>k .JW
  |.fn g cs=>k (.fn g cs)
  |_=>none
 |some (.interface _)=>(Wc p).bind fun b=>k (.ifc b)
 |_=>none
def GK(t:TypeId)(v:V)(k:V→Option R):Option R:=
 match v with
 |.pv p=>jE E t p fun p=>k (.pv p)
 |.top=>none
 |v=>if(E.P.underlying t).isSome then k v else none
def Jb:List TypeId→List PV→(List V→Option R)→Option R
 |[],[],k=>k []
 |t::ts,p::ps,k=>jE E t p fun q=>Jb ts ps fun vs=>k (.pv q::vs)
 |_,_,_=>none
def Jc(ts:List TypeId)(r:PV)(k:V→Option R):Option R:=
 match ts with
 |[]=>(cn 0 r).bind fun _=>k (.aG [])
 |[t]=>jE E t r fun q=>k (.pv q)
 |ts=>(cn ts.length r).bind fun vs=>Jb E ts ((List.range ts.length).map fun j=>vs.getD j .bad) fun us=>k (.aG us)
def HY(fid:FuncId)(ts:List TypeId)(r:PV)(k:V→Option R):Option R:=
 match E.fnr fid with
 |some s=>(rdL s r).bind fun ls=>k (.pv (Pj s ((List.range s.n).map fun j=>ls.getD j .bad)).1)
 |none=>Jc E ts r k
def bR(f:Fr):Operand→V
 |.tmp t=>bif Nat.blt t E.fn.ntmps then f t else .top
 |.const c=>NK c
 |.global g=>match E.aW g with|some cs=>.pv (.rp cs)|none=>.top
 |.func f=>bif Nat.blt f KA then .fn f []else .top
def fresh(draw:Bool)(site:Nat)(b:bX)(f:Fr)(m:Mem)(k:Fr→Mem→bN→Option R):Option R:=
 match m site with
 |none=>k f (aD m site b) [(true,site)]
 |some _=>if draw||b.names site then none else k (fD site f) (aD (bS site m) site b) [(true,site)]
def vW:V→Option (List V)
 |.pv (.agg cs)=>some (cs.map .pv)
 |.agg cs=>some cs
 |_=>none
def dq:Mem:=fun _=>none
def px(op:BinOp)(t:TypeId)(a b:V)(k:PV→Option R):Option R:=
 match a,b with
 |.pv (.int q x),.pv (.int q' y)=>match op with
  |.shl=>if y<0 then none else k (.int q (q.wrap (x*2^(min y.toNat q.bits))))
  |.shr=>if y<0 then none else k (.int q (x.fdiv (2^(min y.toNat q.bits))))
  |op=>if q=q' then match op with
   |.add=>k (.int q (q.wrap (x+y)))
   |.sub=>k (.int q (q.wrap (x-y)))
   |.mul=>k (.int q (q.wrap (x*y)))
   |.quo=>if y=0 then none else k (.int q (q.wrap (x.tdiv y)))
   |.rem=>if y=0 then none else k (.int q (x.tmod y))
   |.and=>k (.int q (q.wrap (BitVec.ofInt q.bits x&&&BitVec.ofInt q.bits y).toNat))
   |.or=>k (.int q (q.wrap (BitVec.ofInt q.bits x|||BitVec.ofInt q.bits y).toNat))
   |.xor=>k (.int q (q.wrap (BitVec.ofInt q.bits x^^^BitVec.ofInt q.bits y).toNat))
   |.andNot=>k (.int q (q.wrap (BitVec.ofInt q.bits x&&& ~~~(BitVec.ofInt q.bits y)).toNat))
   |.eql=>k (.bool (x==y))
   |.neq=>k (.bool (x !=y))
   |.lss=>k (.bool (decide (x<y)))
   |.leq=>k (.bool (decide (x≤y)))
   |.gtr=>k (.bool (decide (x>y)))
   |.geq=>k (.bool (decide (x≥y)))
   |_=>none
   else none
 |.pv (.str x),.pv (.str y)=>match op with
  |.add=>if E.lp.room (x.length+y.length)=true then k (.str (x++y))else none
  |.eql=>k (.bool (x==y))
  |.neq=>k (.bool (!(x==y)))
  |.lss=>k (.bool (Op.bytesLess x y))
  |.leq=>k (.bool (Op.bytesLess x y||x==y))
  |.gtr=>k (.bool (!(Op.bytesLess x y||x==y)))
  |.geq=>k (.bool (!(Op.bytesLess x y)))
  |_=>none
 |.pv (.bool x),.pv (.bool y)=>match op,E.P.underlying t with
  |.eql,some .bool=>k (.bool (x==y))
  |.neq,some .bool=>k (.bool (!(x==y)))
  |_,_=>none
 |.pv .vT,.pv .vT=>match op,E.P.underlying t with
  |.eql,some (.pointer _)=>k (.bool true)
  |.neq,some (.pointer _)=>k (.bool false)
  |_,_=>none
 |.fn _ _,.pv .JW|.pv (.fn _ _),.pv .JW=>match op,E.P.underlying t with
  |.eql,some (.func _ _ _)=>k (.bool false)
  |.neq,some (.func _ _ _)=>k (.bool true)
  |_,_=>none
 |.pv (.rp _),.pv .vT|.op _ _,.pv .vT|.oe _ _ _,.pv .vT=>match op,E.P.underlying t with
  |.eql,some (.pointer _)=>k (.bool false)
  |.neq,some (.pointer _)=>k (.bool true)
  |_,_=>none
 |a,b=>if aN E.P t then match yy E.P t,vW a,vW b with
  |some ks,some as,some bs=>match uZ (nv dq 1) as,uZ (nv dq 1) bs with
   |some as,some bs=>if mK ks as=true∧mK ks bs=true then match op with
    |.eql=>k (.bool (cz as bs))
    |.neq=>k (.bool (!(cz as bs)))
    |_=>none
    else none
   |_,_=>none
  |_,_,_=>none
  else none
def KC:Operand→Bool
 |.const .nilIface=>true
 |_=>false
def abR(op:BinOp)(t:TypeId)(a:V)(k:PV→Option R):Option R:=
 match a with
 |.pv (.ifc b)=>match op,E.P.underlying t with
  |.eql,some (.interface _)=>k (.bool (!b))
  |.neq,some (.interface _)=>k (.bool b)
  |_,_=>none
 |_=>none
def Q0(op:BinOp)(t:TypeId)(y:Operand)(a b:V)(k:PV→Option R):Option R:=bif KC y then abR E op t a k else px E op t a b k
noncomputable def agree(a b:Option R):Option R:= @ite _ (a=b) (Classical.propDecidable _) a none
noncomputable def TT(op:BinOp)(t:TypeId)(es:List PV)(k:Bool→Option R):Option R:=
 match op,E.P.underlying t with
 |.eql,some (.slice _)=>if es.isEmpty=true then agree (k true) (k false)else k false
 |.neq,some (.slice _)=>if es.isEmpty=true then agree (k false) (k true)else k true
 |_,_=>none
def xun(op:UnOp)(a:V)(k:PV→Option R):Option R:=
 match op,a with
 |.not,.pv (.bool b)=>k (.bool !b)
 |.neg,.pv (.int q n)=>k (.int q (q.wrap (0-n)))
 |.xor,.pv (.int q n)=>k (.int q (q.wrap (BitVec.ofInt q.bits (if q.signed then-1 else q.max)^^^BitVec.ofInt q.bits n).toNat))
 |_,_=>none
def KD(s d:TypeId)(a:V)(k:PV→Option R):Option R:=
 match E.P.underlying s,E.P.underlying d,a with
 |some (.int q),some (.int q'),.pv (.int q'' n)=>if q''=q then(if q'=q then k (.int q n)else k (.int q' (q'.wrap n)))else none
 |some .string,some .string,.pv (.str s)=>k (.str s)
 |_,_,_=>none
def za(s:Nat)(t:TypeId)(e:PV)(off:Nat)(k:V→Option R):Option R:=
 if aN E.P t then(if off+bj E.P t≤s then k (.pv (.agg (((aQ s e).drop off).take (bj E.P t))))else none)
 else match(aQ s e)[off]? with
  |some p=>jE E t p fun p=>k (.pv p)
  |none=>none
def pvO:V→Option PV
 |.pv p=>some p
 |_=>none
def HZ(t:TypeId)(s i off:Nat):Bool:=match E.P.underlying t with
 |some (.array _ e)=>Nat.beq (bj E.P e) s&&aN E.P e&&Nat.beq i 0&&Nat.beq off 0
 |_=>false
def uO(own:Bool)(t:TypeId)(a:V)(m:Mem)(k:V→bN→Option R):Option R:=
 match a with
 |.pv (.rp cs)=>
  if aN E.P t then(if bj E.P t≤cs.length then k (.pv (.agg (cs.take (bj E.P t)))) []else none)
  else(cs.head?).bind fun p=>jE E t p fun p=>k (.pv p) []
 |.op id off=>match m id with
  |some (.box cs)=>
   if aN E.P t then(if off+bj E.P t≤cs.length then k (.agg ((cs.drop off).take (bj E.P t))) [(false,id)]else none)
   else match uZ pvO cs with
    |some ps=>(ps[off]?).bind fun p=>jE E t p fun p=>k (.pv p) [(false,id)]
    |none=>match cs[off]? with
     |some v=>GK E t v fun v=>k v [(false,id)]
     |none=>none
  |_=>none
 |.oe id i off=>match m id with
  |some (.arr s _ es)=>bif HZ E t s i off then(if es.length*s=bj E.P t then k (.pv (.agg (gy s es))) [(false,id)]else none)else(es[i]?).bind fun e=>za E s t e off fun v=>k v [(false,id)]
  |some (.vK s _ es)=>(es[i]?).bind fun e=>za E s t e off fun v=>k v [(false,id)]
  |some (.nest _ _ es)=>if aN E.P t then none else(es[i]?).bind fun e=>
   if own then(match E.P.underlying t with
    |some (.slice et)=>(fV (bj E.P et) (cell e off)).bind fun _=>k (.CC id i off) [(false,id)]
    |_=>none)
   else jE E t (cell e off) fun p=>k (.pv p) [(false,id)]
  |_=>none
 |.GI id i off s j off2=>match m id with
  |some (.nest _ _ es)=>(es[i]?).bind fun e=>(fV s (cell e off)).bind fun rs=>(rs[j]?).bind fun q=>za E s t q off2 fun v=>k v [(false,id)]
  |_=>none
 |_=>none
def over{T:Type}:List T→List T→List T
 |[],cs=>cs
 |x::new,[]=>x::over new []
 |x::new,_::cs=>x::over new cs
def bY{T:Type}:List T→Nat→List T→List T
 |cs,0,new=>over new cs
 |[],_+1,new=>new
 |c::cs,off+1,new=>c::bY cs off new
theorem Pk{T:Type}:∀(new cs:List T),over new cs=new++cs.drop new.length
 |[],cs=>by rfl
 |x::new,[]=>by simp[over,Pk new []]
 |x::new,_::cs=>by simp[over,Pk new cs]
theorem eu{T:Type}:∀(cs:List T)(off:Nat)(new:List T),bY cs off new=cs.take off++new++cs.drop (off+new.length)
 |cs,0,new=>by cases cs<;>simp[bY,Pk]
 |[],_+1,new=>by simp[bY]
 |c::cs,off+1,new=>by rw[bY,eu cs off new,show off+1+new.length=(off+new.length)+1 by omega];simp
def CE(draw:Bool)(m:Mem)(n:Nat)(agg:Bool)(v:V):Option (PV×Mem):=if draw then(match mM dq n agg v with|some (p,_)=>some (p,m)|none=>none)else mM m n agg v
def setRow(s:Nat)(e:PV)(off:Nat)(p:PV):PV:=if s=1 then p else .agg ((aQ s e).set off p)
def setCells(s:Nat)(e:PV)(off n:Nat)(p:PV):PV:=if off=0∧n=s then p else .agg (bY (aQ s e) off p.cells)
def TU(t:TypeId)(i off:Nat)(b:Option bX)(x:V):Option (Nat×TypeId×Nat×PV):=match b,x with
 |some (.arr s et es),.pv p=>bif HZ E t s i off then some (s,et,es.length,p)else none
 |_,_=>none
def zb(draw:Bool)(t:TypeId)(a x:V)(m:Mem)(k:Mem→bN→Option R):Option R:=
 match a with
 |.op id off=>match m id with
  |some (.box cs)=>match toCells (bj E.P t) x with
   |some new=>if off+bj E.P t≤cs.length∧0<bj E.P t then k (aD m id (.box (bY cs off new))) [(true,id)]else none
   |none=>none
  |_=>none
 |.oe id i off=>match TU E t i off (m id) x with
  |some (s,et,n,p)=>(asAgg (bj E.P t) p).bind fun _=>if n*s=bj E.P t∧0<bj E.P t then k (aD m id (.arr s et (fZ s n p))) [(true,id)]else none
  |none=>match CE draw m (bj E.P t) (aN E.P t) x with
  |some (p,m)=>match m id with
   |some (.arr s et es)=>(es[i]?).bind fun e=>
    if off=0∧bj E.P t=s∧0<s then k (aD m id (.arr s et (es.set i p))) [(true,id)]
    else if off+bj E.P t≤s∧0<bj E.P t∧1<s then k (aD m id (.arr s et (es.set i (.agg (bY (aQ s e) off p.cells))))) [(true,id)]
    else none
   |some (.nest s et es)=>(es[i]?).bind fun e=>if off+bj E.P t≤s∧0<bj E.P t∧1<s then k (aD m id (.nest s et (es.set i (.agg (bY (aQ s e) off p.cells))))) [(true,id)]else none
   |_=>none
  |none=>none
 |.GI id i off s j off2=>match mM dq (bj E.P t) (aN E.P t) x with
  |some (p,_)=>match m id with
   |some (.nest s0 et es)=>(es[i]?).bind fun e=>(fV s (cell e off)).bind fun rs=>(rs[j]?).bind fun q=>
    if off2+bj E.P t≤s∧0<bj E.P t∧off<s0 then k (aD m id (.nest s0 et (es.set i (setRow s0 e off (.uY s (rs.set j (setCells s q off2 (bj E.P t) p))))))) [(true,id)]
    else none
   |_=>none
  |none=>none
 |_=>none
def Ng(m:Mem)(x:V)(k:Nat→bN→Option R):Option R:=
 match x with
 |.pv (.rs _ es)=>k es.length []
 |.jC=>k 0 []
 |.gx id _ len=>match m id with
  |some (.arr _ _ _)=>k len [(false,id)]
  |some (.vK _ _ _)=>k len [(false,id)]
  |_=>none
 |.os id=>match m id with
  |some (.arr _ _ es)=>k es.length [(false,id)]
  |some (.vK _ _ es)=>k es.length [(false,id)]
  |some (.nest _ _ es)=>k es.length [(false,id)]
  |some (.box cs)=>if cs.length≤maxLen then k cs.length [(false,id)]else none
  |_=>none
 |_=>none
def ZL(sz:Nat)(m:Mem)(x:V)(k:Nat→bN→Option R):Option R:=
 match x with
 |.CC id i off=>match m id with
  |some (.nest _ _ es)=>(es[i]?).bind fun e=>(fV sz (cell e off)).bind fun rs=>k rs.length [(false,id)]
  |_=>none
 |x=>Ng m x k
def abS(m:Mem)(x:V)(k:Nat→bN→Option R):Option R:=
 match x with
 |.om id=>match m id with
  |some (.map _ es)=>if es.length≤maxLen then k es.length [(false,id)]else none
  |_=>none
 |.pv .A3=>k 0 []
 |_=>none
def Q1(t:TypeId)(x:V)(m:Mem)(k:V→bN→Option R):Option R:=
 match E.P.underlying t with
 |some (.array n _)=>if n≤maxLen then k (.pv (.int .i64 n)) []else none
 |some .string=>match x with
  |.pv (.str s)=>k (.pv (.int .i64 s.length)) []
  |_=>none
 |some (.slice e)=>ZL (bj E.P e) m x fun n ft=>k (.pv (.int .i64 n)) ft
 |some (.map _ _)=>abS m x fun n ft=>k (.pv (.int .i64 n)) ft
 |_=>none
def ga(m:Mem)(sz:Nat):V→Option (List PV×bN)
 |.pv (.rs s es)=>if s=sz then some (es,[])else match es with|[]=>some ([],[])|_=>none
 |.jC=>some ([],[])
 |.os id=>match m id with
  |some (.arr s' _ es)=>if s'=sz then some (es,[(false,id)])else none
  |some (.vK s' _ es)=>if s'=sz then some (es,[(false,id)])else none
  |_=>none
 |.gx id lo len=>match m id with
  |some (.arr s' _ es)=>if s'=sz then some ((es.drop lo).take len,[(false,id)])else none
  |some (.vK s' _ es)=>if s'=sz then some ((es.drop lo).take len,[(false,id)])else none
  |_=>none
 |.CC id i off=>match m id with
  |some (.nest _ _ es)=>(es[i]?).bind fun e=>(fV sz (cell e off)).bind fun rs=>some (rs,[(false,id)])
  |_=>none
 |_=>none
def Pl(m:Mem)(sz:Nat)(x:V)(k:List PV→bN→Option R):Option R:=
 match x with
 |.CC id i off=>match m id with
  |some (.nest _ _ es)=>(es[i]?).bind fun e=>(fV sz (cell e off)).bind fun rs=>k rs [(false,id)]
  |_=>none
 |x=>match ga m sz x with
  |some (es,ft)=>k es ft
  |none=>none
def H0:List PV→Option Bytes
 |[]=>some []
 |.int .u8 n::r=>(H0 r).map fun b=>UInt8.ofNat n.toNat::b
 |_=>none
def H2(s d:TypeId)(a:V)(m:Mem)(k:PV→bN→Option R):Option R:=
 match E.P.underlying s,E.P.underlying d with
 |some (.slice e),some .string=>match E.P.underlying e,ga m 1 a with
  |some (.int .u8),some (es,ft)=>(H0 es).bind fun b=>k (.str b) ft
  |_,_=>none
 |_,_=>KD E s d a fun p=>k p []
def al(i:Int)(n:Nat):Prop:=0≤i∧i<(n:Int)
instance (i:Int) (n:Nat):Decidable (al i n):=inferInstanceAs (Decidable (_∧_))
def dC(t:TypeId)(x ix:V)(m:Mem)(k:V→bN→Option R):Option R:=
 match ix with
 |.pv (.int _ i)=>match E.P.underlying t,x with
  |some (.slice e),.pv (.rs s es)=>if s=bj E.P e∧0<s then(dB es i).bind fun p=>k (.pv (.rp (aQ s p))) []else none
  |some (.slice e),.os id=>match m id with
   |some (.arr s _ es)=>if s=bj E.P e∧0<s then(if al i es.length then k (.oe id i.toNat 0) [(false,id)]else none)else none
   |some (.vK s _ es)=>if s=bj E.P e∧0<s then(if al i es.length then k (.oe id i.toNat 0) [(false,id)]else none)else none
   |some (.nest s _ es)=>if s=bj E.P e∧0<s then(if al i es.length then k (.oe id i.toNat 0) [(false,id)]else none)else none
   |some (.box cs)=>if bj E.P e=1∧al i cs.length then k (.op id i.toNat) [(false,id)]else none
   |_=>none
  |some (.slice e),.CC id i0 off=>match m id with
   |some (.nest _ _ es)=>if 0<bj E.P e then(es[i0]?).bind fun e0=>(fV (bj E.P e) (cell e0 off)).bind fun rs=>if al i rs.length then k (.GI id i0 off (bj E.P e) i.toNat 0) [(false,id)]else none else none
   |_=>none
  |some (.slice e),.gx id lo len=>match m id with
   |some (.arr s _ _)=>if s=bj E.P e∧0<s then(if al i len then k (.oe id (lo+i.toNat) 0) [(false,id)]else none)else none
   |some (.vK s _ _)=>if s=bj E.P e∧0<s then(if al i len then k (.oe id (lo+i.toNat) 0) [(false,id)]else none)else none
   |_=>none
  |some (.array n e),.op id off=>if al i n∧0<bj E.P e then k (.op id (off+i.toNat*bj E.P e)) []else none
  |some (.array n e),.pv (.rp cs)=>if al i n∧0<bj E.P e then k (.pv (.rp (cs.drop (i.toNat*bj E.P e)))) []else none
  |some (.array n e),.oe id j off=>if al i n∧0<bj E.P e then(match(match m id with|some (.arr s _ _)=>Nat.beq (bj E.P e) s|_=>false)with
   |true=>k (.oe id (i.toNat+j) off) [(false,id)]
   |false=>k (.oe id j (off+i.toNat*bj E.P e)) [(false,id)])else none
  |_,_=>none
 |_=>none
def GL(s:TypeId)(j:Nat):Option (Nat×TypeId):=
 match E.P.underlying s with
 |some (.struct fs)=>match fs[j]? with
  |some f=>if bj E.P f.type=0 then none else some (f.offset,f.type)
  |none=>none
 |_=>none
def ma(s:TypeId)(x:V)(j:Nat)(k:V→Option R):Option R:=
 match GL E s j with
 |some (o,_)=>match x with
  |.pv (.rp cs)=>k (.pv (.rp (cs.drop o)))
  |.op id off=>k (.op id (off+o))
  |.oe id i off=>k (.oe id i (off+o))
  |.GI id i off s j off2=>k (.GI id i off s j (off2+o))
  |_=>none
 |none=>none
def KE(t:TypeId)(cs:List V)(off:Nat)(k:V→Option R):Option R:=
 if aN E.P t then(if off+bj E.P t≤cs.length then k (.agg ((cs.drop off).take (bj E.P t)))else none)
 else match cs[off]? with
  |some v=>GK E t v k
  |none=>none
def KF(s:TypeId)(x:V)(j:Nat)(k:V→Option R):Option R:=
 match GL E s j,vW x with
 |some (o,t),some cs=>KE E t cs o k
 |_,_=>none
def H3(t:TypeId)(x ix:V)(k:V→Option R):Option R:=
 match ix with
 |.pv (.int _ i)=>match E.P.underlying t,x with
  |some .string,.pv (.str s)=>(QX s i).bind fun b=>k (.pv (.int .u8 b.toNat))
  |some (.array n et),x=>match vW x with
   |some cs=>if al i n∧0<bj E.P et then KE E et cs (i.toNat*bj E.P et) k else none
   |none=>none
  |_,_=>none
 |_=>none
def lK(d:Int):Option V→Option Int
 |none=>some d
 |some (.pv (.int _ i))=>some i
 |_=>none
def A6(t:TypeId)(x:V)(lo hi mx:Option V)(m:Mem)(k:V→bN→Option R):Option R:=
 match mx with
 |some mx=>match E.P.underlying t,x with
  |some (.slice e),.os id=>match m id with
   |some (.arr s _ es)=>match lo,hi,mx with
    |none,some (.pv (.int _ h)),.pv (.int _ c)=>if 0≤h∧h≤c∧c≤(es.length:Int)∧s=bj E.P e then k (.gx id 0 h.toNat) [(false,id)]else none
    |_,_,_=>none
   |_=>none
  |_,_=>none
 |none=>match E.P.underlying t,x with
  |some .string,.pv (.str s)=>match lK 0 lo,lK s.length hi with
   |some l,some h=>if 0≤l∧l≤h∧h≤(s.length:Int)then k (.pv (.str ((s.take h.toNat).drop l.toNat))) []else none
   |_,_=>none
  |some (.slice e),.pv (.rs sz es)=>match lK 0 lo,lK es.length hi with
   |some l,some h=>if 0≤l∧l≤h∧h≤(es.length:Int)∧sz=bj E.P e∧bj E.P e≠0 then k (.pv (.rs sz ((es.take h.toNat).drop l.toNat))) []else none
   |_,_=>none
  |some (.slice e),.os id=>match m id with
   |some (.arr s _ es)=>match lK 0 lo,lK es.length hi with
    |some l,some h=>if 0≤l∧l≤h∧h≤(es.length:Int)∧s=bj E.P e then k (.gx id l.toNat (h.toNat-l.toNat)) [(false,id)]else none
    |_,_=>none
   |some (.vK s _ es)=>match lK 0 lo,lK es.length hi with
    |some l,some h=>if 0≤l∧l≤h∧h≤(es.length:Int)∧s=bj E.P e then k (.gx id l.toNat (h.toNat-l.toNat)) [(false,id)]else none
    |_,_=>none
   |_=>none
  |_,_=>none
def placesOf(fs:List Field)(j:Nat):Option (Nat×Nat):=(fs[j]?).map fun f=>(f.offset,bj E.P f.type)
def NM(place:Nat→Option (Nat×Nat))(cs:List V):List (Nat×V)→Option (List V)
 |[]=>some cs
 |(i,v)::rest=>match place i with
  |some (off,size)=>match toCells size v with
   |some new=>if off+size≤cs.length then NM place (bY cs off new) rest else none
   |none=>none
  |none=>none
def dD(t:TypeId):Option (List V):=match zeroV E.P t with|some v=>toCells (bj E.P t) v|none=>none
def H4(t:TypeId)(parts:List (Nat×V))(k:V→Option R):Option R:=
 match dD E t,E.P.underlying t with
 |some z,some (.struct fs)=>if fs.toList.all (fun f=>(E.P.info? f.type).isSome)then match NM (placesOf E fs.toList) z parts with
  |some cs=>k (.agg cs)
  |none=>none
  else none
 |some z,some (.array _ e)=>if 0<bj E.P e then match NM (fun i=>some (i*bj E.P e,bj E.P e)) z parts with
  |some cs=>k (.agg cs)
  |none=>none
  else none
 |_,_=>none
def fP(m:Mem)(n:Nat)(agg:Bool):Nat→List (Nat×V)→Option (List PV×Mem)
 |_,[]=>some ([],m)
 |i,(j,v)::r=>if i=j then match mM m n agg v with
  |some (p,m)=>match fP m n agg (i+1) r with
   |some (ps,m)=>some (p::ps,m)
   |none=>none
  |none=>none
  else none
def KG:Nat→List (Nat×V)→Option (List V)
 |_,[]=>some []
 |i,(j,v)::r=>if i=j then match toCells 1 v with
  |some cs=>match KG (i+1) r with
   |some us=>some (cs++us)
   |none=>none
  |none=>none
  else none
def Wd(t:TypeId):Bool:=match E.P.underlying t with|some (.func _ _ _)=>true|_=>false
def H5(t:TypeId):Option PV:=match zeroV E.P t with
 |some v=>match nv dq 2 v with
  |some p=>if aN E.P t=p.isAgg∧p.cells.length=bj E.P t∧p.plain=true then some p else none
  |none=>none
 |none=>none
def keyOf(kt:TypeId)(v:V):Option PV:=
 match yy E.P kt with
 |some ks=>
  if aN E.P kt then(match vW v with
   |some cs=>match uZ (nv dq 1) cs with
    |some ps=>if mK ks ps then some (.agg ps)else none
    |none=>none
   |none=>none)
  else match v with
   |.pv p=>if mK ks [p]then some p else none
   |_=>none
 |none=>none
def Q2(site:Nat)(t:TypeId)(x ix:V)(m:Mem)(k:V→Mem→bN→Option R):Option R:=
 match E.P.underlying t with
 |some (.map kt et)=>match E.P.underlying et with
  |some (.slice e)=>match x,zeroV E.P et with
   |.om id,some .jC=>match m id,m site with
    |some (.fU Cx e' es),none=>if Cx=kt∧e'=e∧0<bj E.P e then(keyOf E kt ix).bind fun key=>(QY (bj E.P e) key es).bind fun rs=>k (.os site) (aD (aD m id (.fU kt e (Am key es))) site (.arr (bj E.P e) e rs)) [(true,id),(true,site)]else none
    |_,_=>none
   |_,_=>none
  |_=>none
 |_=>none
def A7(t:TypeId)(x ix:V)(ok:Bool)(m:Mem)(k:V→bN→Option R):Option R:=
 match E.P.underlying t with
 |some (.map kt et)=>match H5 E et with
  |some z=>match x with
   |.om id=>match m id with
    |some (.map Cx es)=>if Cx=kt then(keyOf E kt ix).bind fun key=>jE E et (cB key z es) fun v=>k (if ok then .aG [.pv v,.pv (.bool (yj key es))]else .pv v) [(false,id)]else none
    |_=>none
   |.pv p=>da kt p ((keyOf E kt ix).bind fun _=>k (if ok then .aG [.pv z,.pv (.bool false)]else .pv z) []) fun ks vs=>(keyOf E kt ix).bind fun key=>jE E et (cB key z (ks.zip vs)) fun v=>k (if ok then .aG [.pv v,.pv (.bool (yj key (ks.zip vs)))]else .pv v) []
   |_=>none
  |none=>none
 |_=>none
def GM(draw:Bool)(m:Mem)(v:V):Option (PV×Mem):=if draw then(match A4 dq v with|some (p,_)=>some (p,m)|none=>none)else A4 m v
def rV(draw:Bool)(t:TypeId)(x key val:V)(m:Mem)(k:Mem→bN→Option R):Option R:=
 match E.P.underlying t with
 |some (.map kt _)=>match x with
  |.om id=>match GM draw m val with
   |some (v,m)=>match m id with
    |some (.map Cx es)=>if Cx=kt then(keyOf E kt key).bind fun key=>k (aD m id (.map kt (dJ key v es))) [(true,id)]else none
    |_=>none
   |none=>none
  |_=>none
 |_=>none
def ah:Nat:=140737488355328
def nO(m:Mem):Nat→List V→Option (List PV×Option (Nat×Nat))
 |_,[]=>some ([],none)
 |j,.os id::r=>match m id with
  |some (.arr s _ es)=>match nO m (j+1) r with
   |some (ps,none)=>some (.uY s es::ps,some (j,id))
   |_=>none
  |_=>none
 |j,v::r=>match nv dq 1 v with
  |some p=>match nO m (j+1) r with
   |some (ps,t)=>some (p::ps,t)
   |none=>none
  |none=>none
def elemOf(agg:Bool)(ps:List PV):Option PV:=if agg then some (.agg ps)else match ps with|[p]=>some p|_=>none
inductive Sp where
 |st (id i off s:Nat) (et:TypeId) (es ps:List PV) (id2:Nat)
 |app (id s:Nat) (et:TypeId) (es new:List PV) (src:Option Nat) (rd:bN)
 |lit (s:Nat) (et:TypeId) (p:PV) (id2:Nat)
 |upd (id:Nat) (kt e:TypeId) (es:List (PV×PV)) (key:PV) (s:Nat) (rs:List PV) (id2:Nat)
def FC(site:Nat)(o:Oper)(f:Fr)(m:Mem):Option Sp:=
 match o.op with
 |.store t a x=>match bR E f a with
  |.oe id i off=>match m id with
   |some (.nest s et es)=>match toCells (bj E.P t) (bR E f x)with
    |some cs=>match nO m 0 cs with
     |some (ps,some (_,id2))=>if off+bj E.P t≤s&&0<bj E.P t&& !(Nat.beq id2 id)then some (.st id i off s et es ps id2)else none
     |_=>none
    |none=>none
   |_=>none
  |_=>none
 |.buildSlice t len parts=>match E.P.underlying t,parts.toList.map fun(i,x)=>(i,bR E f x)with
  |some (.slice e),[(0,v)]=>match toCells (bj E.P e) v with
   |some cs=>match nO m 0 cs,m site with
    |some (ps,some (_,id2)),none=>match elemOf (aN E.P e) ps with
     |some p=>if Nat.beq len 1&&0<bj E.P e&&bj E.P e≤16777216&&(dD E e).isSome then some (.lit (bj E.P e) e p id2)else none
     |none=>none
    |_,_=>none
   |none=>none
  |_,_=>none
 |.call c=>match c.callee,c.args.toList.map (bR E f),c.argTypes.toList with
  |.builtin .append,[.os id,x],[t,t']=>match E.P.underlying t,m id with
   |some (.slice e),some (.nest s et es)=>if et=e&&s=bj E.P e&&decide (t'=t)&&(dD E e).isSome&&0<bj E.P e&&0<Nf E.P e then(match x with
    |.os yn=>match m yn with
     |some (.nest s' M9 new)=>if Nat.beq s' s&&decide (M9=et)&& !(Nat.beq yn id)then some (.app id s et es new (some yn) [])else none
     |_=>match ga m s x with
      |some (new,rd)=>if x.has id then none else some (.app id s et es new none rd)
      |none=>none
    |_=>match ga m s x with
     |some (new,rd)=>if x.has id then none else some (.app id s et es new none rd)
     |none=>none)else none
   |_,_=>none
  |_,_,_=>none
 |.mapUpdate t x key v=>match E.P.underlying t,bR E f x,bR E f v with
  |some (.map kt _),.om id,.os id2=>match m id,m id2,keyOf E kt (bR E f key)with
   |some (.fU Cx e es),some (.arr s e' rs),some key=>if decide (Cx=kt)&&decide (e'=e)&&Nat.beq s (bj E.P e)then some (.upd id kt e es key s rs id2)else none
   |_,_,_=>none
  |_,_,_=>none
 |_=>none
def Sp.info(site:Nat):Sp→Kl×bN
 |.st id _ _ _ _ _ _ id2=>([(true,id2),(false,id)],[(true,id),(true,id2)])
 |.app id _ _ _ _ (some id2) _=>([(true,id2),(true,id)],[(true,id),(true,id2)])
 |.app id _ _ _ _ none rd=>([(true,id)],(true,id)::rd)
 |.lit _ _ _ id2=>([(true,id2)],[(true,site),(true,id2)])
 |.upd id _ _ _ _ _ _ id2=>([(true,id2),(false,id)],[(true,id),(true,id2)])
def xsp(site:Nat)(sp:Sp)(f:Fr)(m:Mem)(k:V→Fr→Mem→bN→Option R):Option R:=
 match sp with
 |.st id i off s et es ps id2=>(es[i]?).bind fun e=>k .top (kf [(true,id2),(false,id)] f) (Ak [(id,.nest s et (es.set i (if s=1 then ps.headD .bad else .agg (bY (aQ s e) off ps))))] (km [(true,id2),(false,id)] m)) [(true,id),(true,id2)]
 |.app id s et es new src rd=>if(es++new).length*Nf E.P et≤ah then k (.os id) (kf (Sp.app id s et es new src rd|>.info site).1 f) (Ak [(id,.nest s et (es++new))] (km (Sp.app id s et es new src rd|>.info site).1 m)) (Sp.app id s et es new src rd|>.info site).2 else none
 |.lit s et p id2=>k (.os site) (kf [(true,id2)] f) (Ak [(site,.nest s et [p])] (km [(true,id2)] m)) [(true,site),(true,id2)]
 |.upd id kt e es key s rs id2=>k .top (kf [(true,id2),(false,id)] f) (Ak [(id,.fU kt e (dJ key (.uY s rs) es))] (km [(true,id2),(false,id)] m)) [(true,id),(true,id2)]
def GN(draw:Bool)(site:Nat)(t t':TypeId)(s x:V)(f:Fr)(m:Mem)(k:V→Fr→Mem→Option R):Option R:=
 if draw|| !(decide (t'=t))then none else
 match E.P.underlying t with
 |some (.slice e)=>if(dD E e).isNone then none else match ga m (bj E.P e) x with
  |some (new,_)=>match s with
   |.jC=>if new.length*Nf E.P e≤ah∧0<Nf E.P e∧0<bj E.P e then fresh draw site (.arr (bj E.P e) e new) f m (fun f m _=>k (.os site) f m)else none
   |.os id=>match m id with
    |some (.arr sz et es)=>if et=e∧sz=bj E.P e∧x.has id=false then(if(es++new).length*Nf E.P e≤ah∧0<Nf E.P e then fresh draw id (.arr sz e (es++new)) (fD id f) (bF (bS id m) id) (fun f m _=>k (.os id) f m)else none)else none
    |_=>none
   |_=>none
  |none=>none
 |_=>none
def Q3(t:TypeId)(d x:V)(m:Mem)(k:V→Mem→bN→Option R):Option R:=
 match E.P.underlying t with
 |some (.slice e)=>match d with
  |.os id=>match m id with
   |some (.arr sz et es)=>if sz=bj E.P e∧x.has id=false then Pl m sz x fun new ft=>k (.pv (.int .i64 (min new.length es.length:Nat))) (aD m id (.arr sz et (new.take es.length++es.drop new.length))) ((true,id)::ft)else none
   |_=>none
  |_=>none
 |_=>none
def KH(t:TypeId)(x:V)(m:Mem)(k:V→Mem→bN→Option R):Option R:=
 match E.P.underlying t with
 |some (.slice e)=>match x,H5 E e with
  |.gx id lo len,some z=>match m id with
   |some (.arr sz et es)=>if sz=bj E.P e∧et=e∧lo+len≤es.length∧0<bj E.P e then k .top (aD m id (.arr sz et (es.take lo++(List.replicate len z++es.drop (lo+len))))) [(true,id)]else none
   |_=>none
  |_,_=>none
 |_=>none
def vX(draw:Bool)(site:Nat)(t:TypeId)(len cap:V)(f:Fr)(m:Mem)(k:V→Fr→Mem→bN→Option R):Option R:=
 match E.P.underlying t,len,cap with
 |some (.slice e),.pv (.int _ n),.pv (.int _ c)=>match H5 E e with
  |some z=>if 0≤n∧n≤c∧c.toNat*Nf E.P e≤ah∧0<Nf E.P e∧0<bj E.P e then fresh draw site (.arr (bj E.P e) e (List.replicate n.toNat z)) f m (fun f m ft=>k (.os site) f m ft)else none
  |none=>none
 |_,_,_=>none
def Q4(a b:V)(k:PV→Option R):Option R:=match a,b with
 |.pv (.int q x),.pv (.int q' y)=>if q=q' then k (.int q (if y<x then y else x))else none
 |_,_=>none
def Jd(a b:V)(k:PV→Option R):Option R:=match a,b with
 |.pv (.int q x),.pv (.int q' y)=>if q=q' then k (.int q (if y>x then y else x))else none
 |_,_=>none
def Q5(a b c d:V)(k:PV→Option R):Option R:=Jd a b fun p=>Jd (.pv p) c fun p=>Jd (.pv p) d k
def A8(t:TypeId):Bool:=match E.P.underlying t with|some (.int _)|some .bool|some .string=>true|_=>false
def j8(m:Mem):List V→Option (List PV×Mem)
 |[]=>some ([],m)
 |v::r=>match A4 m v with
  |some (p,m)=>match j8 m r with
   |some (ps,m)=>some (p::ps,m)
   |none=>none
  |none=>none
def NN:PV→PV
 |.int q n=>.int q n
 |.bool b=>.bool b
 |.str s=>.str s
 |_=>.bad
def B1(draw:Bool)(site:Nat)(fid:FuncId)(args:List V)(f:Fr)(m:Mem)(k:V→Fr→Mem→bN→Option R):Option R:=
 match E.ctx fid with
 |some M=>match E.P.funcs[fid]? with
  |some fn=>
   if fn.resultTypes.toList.all (A8 E)then(match uZ (nv m fl) args with
     |some ps=>(M ps).bind fun r=>Jc E fn.resultTypes.toList r fun v=>k v f m ((j7 (dd m fl) args).map fun i=>(false,i))
     |none=>none)
   else(match j8 (if draw then dq else m) args with
     |some (ps,m')=>(M ps).bind fun r=>HY E fid fn.resultTypes.toList r fun v=>k v f (if draw then m else m') (if draw then[]else[(true,0)])
     |none=>none)
  |none=>none
 |none=>match E.own fid with
  |some M=>match E.P.funcs[fid]? with
   |some fn=>match fn.resultTypes.toList with
    |[t]=>match E.P.underlying t with
     |some (.slice e)=>if A8 E e=true∧bj E.P e=1 then(match uZ (nv m fl) args with
      |some ps=>(M ps).bind fun r=>(ao (bj E.P e) r).bind fun es=>fresh draw site (.arr (bj E.P e) e (es.map NN)) f m fun f m1 ft=>k (.os site) f m1 (ft++(j7 (dd m fl) args).map fun i=>(false,i))
      |none=>none)
      else match j8 (if draw then dq else m) args with
      |some (ps,m')=>(M ps).bind fun r=>(ao (bj E.P e) r).bind fun es=>fresh draw site (.arr (bj E.P e) e es) f (if draw then m else m') fun f m ft=>k (.os site) f m ft
      |none=>none
     |_=>none
    |_=>none
   |none=>none
  |none=>if draw then none else E.inl R fid (site*4096+fid) args f m fun v f m=>k v f m [(true,0)]
def abT(f:TypeId→Option (List TypeId)):List Field→Option (List TypeId)
 |[]=>some []
 |x::r=>(f x.type).bind fun a=>(abT f r).bind fun b=>some (a++b)
def abU(l:List TypeId):Nat→List TypeId
 |0=>[]
 |n+1=>l++abU l n
def KI(P:Program):Nat→TypeId→Option (List TypeId)
 |0,_=>none
 |d+1,t=>match P.underlying t with
  |some (.struct fs)=>abT (KI P d) fs.toList
  |some (.array n e)=>(KI P d e).bind fun l=>some (abU l n)
  |some _=>some [t]
  |none=>none
def B2(n:Nat)(args:List V)(f:Fr):Fr:=fun t=>bif Nat.blt t n then args.getD t .top else f (t-n)
def CF(n:Nat)(f:Fr):Fr:=fun t=>f (t+n)
def abV:V→Bool
 |.jC=>true
 |_=>false
def An(site j:Nat):Nat:=site+(j+1)*1606938044258990275541962092341162602522202993782792835301376
def El(E:Env){R:Type}(site:Nat):List TypeId→Nat→Fr→Mem→(Fr→Mem→Option R)→Option R
 |[],_,F,m,k=>k F m
 |t::ts,j,F,m,k=>match F j with
  |.jC=>match E.P.underlying t with
   |some (.slice e)=>if 0<bj E.P e then fresh false (An site j) (.arr (bj E.P e) e []) F m fun F m _=>El E site ts (j+1) (ij F j (.os (An site j))) m k else none
   |_=>none
  |_=>El E site ts (j+1) F m k
def amz(E:Env)(t:TypeId):Bool:=match E.P.underlying t with|some (.slice _)=>true|_=>false
def Pm(f:Fr):Option Operand→Bool
 |none=>true
 |some x=>match bR E f x with|.pv (.int _ _)=>true|_=>false
noncomputable def yA(n:Nat)(g:Nat→Option R):Option R:= @dite _ (∃r,∀i,i<n→g i=some r) (Classical.propDecidable _) (fun h=>some (Classical.choose h)) fun _=>none
def TV(site:Nat)(t:TypeId)(x:V)(f:Fr)(m:Mem)(k:V→Fr→Mem→Option R):Option R:=
 match E.P.underlying t with
 |some (.map kt _)=>match x with
  |.om id=>match m id with
   |some (.map Cx es)=>if Cx=kt then fresh false site (.iter t es none) (fD id f) (bF (bS id m) id) fun f m _=>k (.it site) f m else none
   |_=>none
  |_=>none
 |_=>none
noncomputable def abW(x:V)(f:Fr)(m:Mem)(k:V→Fr→Mem→Option R):Option R:=
 match x with
 |.it id=>match m id with
  |some (.iter t es _)=>match E.P.underlying t with
   |some (.map kt et)=>if es.isEmpty=true then k (.aG [.pv (.bool false)]) f m else yA es.length fun i=>(es[i]?).bind fun e=>jE E kt e.1 fun a=>jE E et e.2 fun b=>k (.aG [.pv (.bool true),.pv a,.pv b]) f (aD m id (.iter t (es.eraseIdx i) (some (a,b))))
   |_=>none
  |_=>none
 |_=>none
def TW(x:V)(m:Mem)(k:V→Mem→Option R):Option R:=
 match x with
 |.it id=>match m id with
  |some (.iter t es (some (a,b)))=>k (.aG [.pv a,.pv b]) (aD m id (.iter t es none))
  |_=>none
 |_=>none
def TX:Op→Bool
 |.range .. =>true
 |.next .. =>true
 |.entry .. =>true
 |_=>false
def B3(g:FuncId):FuncId:=bif Nat.blt g KA then g else g-KA
def FD(g:FuncId)(caps args:List V):List V:=bif Nat.blt g KA then args++caps else caps++args
noncomputable def cR(draw:Bool)(site:Nat)(o:Oper)(f:Fr)(m:Mem)(k:V→Fr→Mem→bN→Option R):Option R:=
 match o.op with
 |.move x=>k (bR E f x) f m []
 |.assign x=>match bR E f x with
  |.jC=>match E.P.underlying o.type with
   |some (.slice e)=>if 0<bj E.P e then fresh draw site (.arr (bj E.P e) e []) f m fun f m ft=>k (.os site) f m ft else none
   |_=>k .jC f m []
  |v=>k v f m []
 |.pick c a b=>match bR E f c with
  |.pv (.bool t)=>if t then k (bR E f a) f m []else k (bR E f b) f m []
  |_=>none
 |.alloc t=>match dD E t with
  |some cs=>bif E.Kc site then(match E.P.underlying t,uZ pvO cs with
   |some (.array n e),some ps=>if aN E.P e=true∧n*bj E.P e=bj E.P t∧0<bj E.P e∧n≤16777216 then fresh draw site (.arr (bj E.P e) e (fZ (bj E.P e) n (.agg ps))) f m fun f m ft=>k (.oe site 0 0) f m ft else none
   |_,_=>none)
   else if !draw&&amz E t then El E site [t] 0 (B2 cs.length cs f) m fun F m=>fresh false site (.box ((List.range cs.length).map F)) (CF cs.length F) m fun f m ft=>k (.op site 0) f m ft
   else fresh draw site (.box cs) f m fun f m ft=>k (.op site 0) f m ft
  |none=>none
 |.box t x=>match toCells (bj E.P t) (bR E f x)with
  |some cs=>if !draw&&cs.any abV then(match KI E.P 8 t with
   |some ts=>if ts.length=cs.length then El E site ts 0 (B2 cs.length cs f) m fun F m=>fresh false site (.box ((List.range cs.length).map F)) (CF cs.length F) m fun f m ft=>k (.op site 0) f m ft else none
   |none=>none)else fresh draw site (.box cs) f m fun f m ft=>k (.op site 0) f m ft
  |none=>none
 |.build t parts=>H4 E t (parts.toList.map fun(i,x)=>(i,bR E f x)) fun v=>k v f m []
 |.buildSlice t len parts=>match E.P.underlying t with
  |some (.slice e)=>if Wd E e then(match KG 0 (parts.toList.map fun(i,x)=>(i,bR E f x))with
   |some cs=>if parts.size=len∧bj E.P e=1∧len≤16777216∧(dD E e).isSome=true then fresh draw site (.box cs) f m fun f m ft=>k (.os site) f m ft else none
   |none=>none)
   else if E.Kc (site+1000000000000000000000000000000)then(match fP dq (bj E.P e) (aN E.P e) 0 (parts.toList.map fun(i,x)=>(i,bR E f x))with
   |some (es,_)=>if es.length=len∧0<bj E.P e∧len*bj E.P e≤16777216∧(dD E e).isSome=true then k (.pv (.rs (bj E.P e) es)) f m []else none
   |none=>none)
   else match fP (if draw then dq else m) (bj E.P e) (aN E.P e) 0 (parts.toList.map fun(i,x)=>(i,bR E f x))with
   |some (es,m1)=>if es.length=len∧0<bj E.P e∧len*bj E.P e≤16777216∧(dD E e).isSome=true then fresh draw site (.arr (bj E.P e) e es) f (if draw then m else m1) fun f m ft=>k (.os site) f m ft else none
   |none=>none
  |_=>none
 |.load t a=>uO E (E.Kc site) t (bR E f a) m fun v ft=>k v f m ft
 |.store t a x=>zb E draw t (bR E f a) (bR E f x) m fun m ft=>k .top f m ft
 |.nilCheck x=>match bR E f x with
  |.pv (.rp cs)=>k (.pv (.rp cs)) f m []
  |.op id off=>k (.op id off) f m []
  |.oe id i off=>k (.oe id i off) f m []
  |.GI id i off s j off2=>k (.GI id i off s j off2) f m []
  |.fn g cs=>k (.fn g cs) f m []
  |.pv (.fn g cs)=>k (.pv (.fn g cs)) f m []
  |_=>none
 |.binOp op t x y _=>match bR E f x,bR E f y with
  |.pv (.rs _ es),.jC=>if draw then none else TT E op t es fun b=>k (.pv (.bool b)) f m [(true,0)]
  |a,b=>Q0 E op t y a b fun p=>k (.pv p) f m []
 |.unOp op _ x=>xun op (bR E f x) fun p=>k (.pv p) f m []
 |.convert s d x=>H2 E s d (bR E f x) m fun p ft=>k (.pv p) f m ft
 |.makeFunc (.func g) first caps=>bif Nat.blt g KA then(if first.isEmpty then k (.fn g (caps.toList.map (bR E f))) f m []else if caps.isEmpty then k (.fn (g+KA) (first.toList.map (bR E f))) f m []else none)else none
 |.makeMap t hint=>if Pm E f hint=true then match E.P.underlying t with
  |some (.map kt et)=>if(yy E.P kt).isSome then(if E.Kc site then(match E.P.underlying et with
   |some (.slice e)=>fresh draw site (.fU kt e []) f m fun f m ft=>k (.om site) f m ft
   |_=>none)
   else fresh draw site (.map kt []) f m fun f m ft=>k (.om site) f m ft)else none
  |_=>none
  else none
 |.makeSlice t l c=>vX E draw site t (bR E f l) (bR E f c) f m k
 |.slice t x lo hi mx=>A6 E t (bR E f x) (lo.map (bR E f)) (hi.map (bR E f)) (mx.map (bR E f)) m fun v ft=>k v f m ft
 |.fieldAddr s x j=>ma E s (bR E f x) j fun v=>k v f m []
 |.field s x j=>KF E s (bR E f x) j fun v=>k v f m []
 |.indexAddr t x ix=>dC E t (bR E f x) (bR E f ix) m fun v ft=>k v f m ft
 |.index t x ix=>H3 E t (bR E f x) (bR E f ix) fun v=>k v f m []
 |.lookup t x ix ok=>if E.Kc site&& !ok then Q2 E site t (bR E f x) (bR E f ix) m fun v m ft=>k v f m ft else A7 E t (bR E f x) (bR E f ix) ok m fun v ft=>k v f m ft
 |.mapUpdate t x key v=>rV E draw t (bR E f x) (bR E f key) (bR E f v) m fun m ft=>k .top f m ft
 |.insert t x key v=>rV E draw t (bR E f x) (bR E f key) (bR E f v) m fun m ft=>k .top f m ft
 |.range t x=>if draw then none else TV E site t (bR E f x) f m fun v f m=>k v f m [(true,0)]
 |.next x s=>if draw||s then none else abW E (bR E f x) f m fun v f m=>k v f m [(true,0)]
 |.entry x=>if draw then none else TW (bR E f x) m fun v m=>k v f m [(true,0)]
 |.extract t i=>match bR E f t with
  |.aG vs=>match vs[i]? with
   |some v=>k v f m []
   |none=>none
  |_=>none
 |.call c=>match c.callee,c.args.toList.map (bR E f)with
  |.builtin .len,[x]=>match c.argTypes.toList with
   |[t]=>Q1 E t x m fun v ft=>k v f m ft
   |_=>none
  |.builtin .append,[s,x]=>match c.argTypes.toList with
   |[t,t']=>GN E draw site t t' s x f m fun v f m=>k v f m [(true,0)]
   |_=>none
  |.builtin .copy,[d,x]=>match c.argTypes.toList with
   |t::_=>Q3 E t d x m fun v m ft=>k v f m ft
   |_=>none
  |.builtin .clear,[x]=>match c.argTypes.toList with
   |t::_=>KH E t x m fun v m ft=>k v f m ft
   |_=>none
  |.builtin .min,[a,b]=>Q4 a b fun p=>k (.pv p) f m []
  |.builtin .max,[a,b]=>Jd a b fun p=>k (.pv p) f m []
  |.builtin .max,[a,b,c,d]=>Q5 a b c d fun p=>k (.pv p) f m []
  |.value (.func g),args=>B1 E draw site g args f m k
  |.value (.tmp t),args=>match bR E f (.tmp t)with
   |.fn g caps=>B1 E draw site (B3 g) (FD g caps args) f m k
   |.pv (.fn g caps)=>B1 E draw site (B3 g) (FD g (caps.map .pv) args) f m k
   |.yl id=>if draw then none else E.yl R E.fn.ntmps site id args f m fun v f m=>k v f m [(true,0)]
   |_=>none
  |_,_=>none
 |_=>none
noncomputable def Q6(draw:Bool)(site:Nat)(o:Oper)(f:Fr)(m:Mem)(k:V→Fr→Mem→bN→Option R):Option R:=
 match(bif draw then none else bif E.Kc site then FC E site o f m else none)with
 |some sp=>xsp E site sp f m k
 |none=>cR E draw site o f m k
def fW(o:Oper):Bool:=
 match o.op with
 |.move _|.assign _|.pick .. |.load .. |.nilCheck _|.binOp .. |.unOp .. |.convert .. |.slice .. |.fieldAddr .. |.field .. |.indexAddr .. |.index .. |.lookup .. |.extract .. |.build .. =>true
 |.call {callee:=.builtin .len,.. }|.call {callee:=.builtin .min,.. }|.call {callee:=.builtin .max,.. }=>true
 |.call {callee:=.value _,.. }=>true
 |_=>false
def GO:bN→Bool
 |[]=>true
 |(w,_)::r=> !w&&GO r
abbrev Log:=List (Nat×Bool×Nat)
def KJ(o:Oper)(j:Nat):Bool:=o.after.toList.any fun e=>Region.binds .any e&&Nat.beq e.on j
mutual
def V.ids:V→List Nat
 |.agg cs=>Q7 cs
 |.aG cs=>Q7 cs
 |.fn _ cs=>Q7 cs
 |.os j=>[j]
 |.gx j _ _=>[j]
 |.oe j _ _=>[j]
 |.om j=>[j]
 |.CC j _ _=>[j]
 |.GI j _ _ _ _ _=>[j]
 |.op j _=>[j]
 |.yl j=>[j]
 |.it j=>[j]
 |_=>[]
def Q7:List V→List Nat
 |[]=>[]
 |v::r=>v.ids++Q7 r
end
def KK:Option bX→List Nat
 |some (.box cs)=>Q7 cs
 |_=>[]
def Em(n:Nat):Nat:=n+2037035976334486086268445688409378161051468393665936250636140449354381299763336706183397376
def Pn(m m':Mem):bN→List Nat
 |[]=>[]
 |x::r=>KK (m x.2)++KK (m' x.2)++Pn m m' r
def Ke(ops:Array Oper)(o:Oper)(f:Fr)(m m':Mem)(v:V)(ft:bN):List Nat:=Q7 ((o.looksAt ops).map f)++v.ids++Pn m m' ft
def cS(E:Env)(d:Option Nat):Nat:=match d with|some d=>E.fid*4096+d|none=>E.fid*4096+4095
def isApp(E:Env)(o:Oper):Bool:=E.Kc (cS E o.dst)||match o.op with|.call {callee:=.builtin .append,.. }=>true|_=>false
def A9(E:Env)(f:Fr)(m:Mem)(o:Oper):Option (Nat×bN):=
 match o.op with
 |.call c=>match c.callee,c.args.toList.map (bR E f),c.argTypes.toList with
  |.builtin .append,[.os id,x],[t,_]=>match E.P.underlying t with
   |some (.slice e)=>match ga m (bj E.P e) x with
    |some (_,rd)=>if x.has id then none else some (id,rd)
    |none=>none
   |_=>none
  |_,_,_=>none
 |_=>none
def Po(E:Env)(f:Fr)(m:Mem)(o:Oper):Option (Kl×bN):=
 match(bif E.Kc (cS E o.dst)then FC E (cS E o.dst) o f m else none)with
 |some sp=>some (sp.info (cS E o.dst))
 |none=>match A9 E f m o with
  |some (id,rd)=>some ([(true,id)],(true,id)::rd)
  |none=>none
def reach(ops:Array Oper):Nat→Oper→Nat→Bool
 |0,o,j=>KJ o j
 |n+1,o,j=>KJ o j||o.after.toList.any fun e=>Region.binds .any e&&match ops[e.on]? with|some p=>reach ops n p j|none=>false
def We(ops:Array Oper)(o:Oper)(w:Bool)(id:Nat):Log→Bool
 |[]=>true
 |(j,w',yn)::r=>(!(Nat.beq id yn)||(!w&& !w')||reach ops 4 o j)&&We ops o w id r
def H6(ops:Array Oper)(o:Oper)(lg:Log):bN→Bool
 |[]=>true
 |(w,id)::r=>We ops o w id lg&&H6 ops o lg r
def Kf(ops:Array Oper)(o:Oper)(id:Nat):Log→Bool
 |[]=>true
 |(j,_,n)::r=>(!(Nat.beq n (Em id))||reach ops 4 o j)&&Kf ops o id r
def En(ops:Array Oper):List (Nat×Oper)→Oper→Bool
 |[],_=>true
 |(j,p)::r,o=>(p.apart ops o||reach ops 4 o j)&&En ops r o
def sA(ops:Array Oper):List (Nat×Oper)→List (Nat×Oper)→Bool
 |_,[]=>true
 |done,(i,o)::r=>o.after.toList.all (fun e=> !(Region.binds .any e)||Nat.blt e.on i)&&En ops done o&&sA ops ((i,o)::done) r
def guardOf(o:Oper)(A:List (Nat×Bool)):Option (Nat×Bool):=
 match o.guard with
 |none=>none
 |some g=>if A.elem g then none else some g
def Je(A:List (Nat×Bool)):List (Nat×Oper)→List (Nat×Oper)×List (Nat×Oper)
 |[]=>([],[])
 |x::r=>match guardOf x.2 A with
  |some _=>let(a,b):=Je A r;(x::a,b)
  |none=>([],x::r)
def pJ(f:Fr):List (Nat×Oper)→Fr
 |[]=>f
 |x::r=>pJ (kZ f x.2.dst .top) r
def CG(g:Nat×Bool):List Nat→List (Nat×Oper)→Bool
 |_,[]=>true
 |done,x::r=>(match x.2.guard with
  |some h=>(Nat.beq h.1 g.1&&(h.2==g.2))||done.elem h.1
  |none=>false)&&CG g (x.1::done) r
def blind(ops:Array Oper)(body:List (Nat×Oper))(o:Oper):Bool:=body.all fun y=>match y.2.dst with
  |some d=> !((o.looksAt ops).elem d)
  |none=>true
def NO:Bool→Bool→Bool
 |true,b=>b
 |false,b=> !b
def j9(f:Fr):List (Nat×Oper)→Fr
 |[]=>f
 |x::r=>j9 (kZ f x.2.dst (.aG [])) r
def E1:V→Option Bool
 |.pv (.bool b)=>some b
 |_=>none
end
def CH(E:Env)(o:Oper):Bool:=match o.dst with|some d=>Nat.blt d E.fn.ntmps|none=>true
def Pp(E:Env)(g:FuncId):Bool:=match E.P.funcs[g]? with|some fn=>fn.resultTypes.toList.all (A8 E)|none=>false
def agC(E:Env)(f:Fr)(body:List (Nat×Oper))(o:Oper):Bool:=
 fW o&&match o.op with
 |.call {callee:=.value (.func g),.. }=>(E.ctx g).isSome&&Pp E g
 |.call {callee:=.value (.tmp t),.. }=>match(match body.find? (fun x=>x.2.dst==some t)with
  |some (_,p)=>(match p.op with
   |.move y=>bR E f y
   |.assign y=>bR E f y
   |_=>.top)
  |none=>bR E f (.tmp t))with
  |.fn g _=>(E.ctx (B3 g)).isSome&&Pp E (B3 g)
  |.pv (.fn g _)=>(E.ctx (B3 g)).isSome&&Pp E (B3 g)
  |.yl _=>false
  |_=>true
 |_=>true
noncomputable def cw(E:Env)(ops:Array Oper)(mode:Nat):(fuel:Nat)→(R:Type)→List (Nat×Bool)→List (Nat×Oper)→Fr→Mem→Log→(Fr→Mem→Option R)→Option R
 |0,_,_,_,_,_,_,_=>none
 |_+1,_,_,[],f,m,_,k=>k f m
 |fuel+1,R,A,(i,o)::rest,f,m,lg,k=>
  match guardOf o A with
  |none=>
   if CH E o then
    match(bif Nat.beq mode 2 then Po E f m o else none)with
    |some (kl,ft)=>
     if H6 ops o lg ft&&kl.all (fun x=>Kf ops o x.2 lg)&&rest.all (fun x=>reach ops 4 x.2 i)then Q6 E false (cS E o.dst) o f m fun v f1 m1 _=>cw E ops mode fuel R A rest (kZ f1 o.dst v) m1 (ft.map (fun x=>(i,x))++lg) k
     else none
    |none=>Q6 E (Nat.beq mode 1||Nat.beq mode 2) (cS E o.dst) o f m fun v f1 m1 ft=>
      if Nat.beq mode 2 then(if H6 ops o lg ft then cw E ops mode fuel R A rest (kZ f1 o.dst v) m1 ((bif ops.toList.any (isApp E)then(Ke ops o f m m1 v ft).map (fun n=>(i,false,Em n))else[])++(ft.map (fun x=>(i,x))++lg)) k else none)
      else if Nat.beq mode 0 then cw E ops mode fuel R A rest (kZ f1 o.dst v) m1 lg k
      else if GO ft then cw E ops mode fuel R A rest (kZ f1 o.dst v) m1 lg k
      else none
   else none
  |some (j,JX)=>
   match((ops[j]?).bind (·.dst))with
   |some tj=>match bR E f (.tmp tj)with
    |.pv (.bool b)=>
     match Je A ((i,o)::rest)with
     |(body,Q8)=>
     if Nat.beq mode 0&& !(body.all fun x=>agC E f body x.2)then
      (if(body.all fun x=>CH E x.2)&&CG (j,JX) [] body&&((i,o)::rest).all (fun x=> !(x.2.dst==some tj))then
       bif NO JX b then cw E ops mode fuel R ((j,JX)::A) ((i,o)::rest) (ij f tj (.pv (.bool JX))) m lg k
       else cw E ops mode fuel R A Q8 (j9 (ij f tj (.pv (.bool !JX))) body) m lg k
      else none)
     else match Q8 with
     |(_,p)::pK=>
      match p.op with
      |.pick (.tmp c) x y=>
       if Nat.beq c tj&&(guardOf p A).isNone&&body.all (fun x=>fW x.2&&CH E x.2&& !(x.2.dst==some tj))&&CG (j,JX) [] body&&pK.all (fun x=>blind ops body x.2)&&CH E p&& !(Nat.beq mode 2)then
        (match JX with
         |true=>bif b then cw E ops (bif Nat.beq mode 0 then 3 else mode) fuel Bool ((j,JX)::A) body f m lg (fun f _=>E1 (bR E f x))else E1 (bR E (pJ f body) y)
         |false=>bif b then E1 (bR E (pJ f body) x)else cw E ops (bif Nat.beq mode 0 then 3 else mode) fuel Bool ((j,JX)::A) body f m lg (fun f _=>E1 (bR E f y))).bind fun r=>
        cw E ops mode fuel R A pK (kZ (pJ f body) p.dst (.pv (.bool r))) m lg k
       else none
      |_=>none
     |[]=>none
    |_=>none
   |none=>none
inductive Ex where
 |normal
 |exit (id:Nat)
 |ret
def Q9{R:Type}(body:Fr→Mem→(Fr→Mem→Option R)→Option R):Nat→Fr→Mem→Option R
 |0,_,_=>none
 |n+1,f,m=>body f m (Q9 body n)
def Eo:Code→Nat
 |.region id _ _=>id
 |.seq a _=>Eo a
 |.cond _ a _=>Eo a
 |.block _ b=>Eo b
 |.loop b=>Eo b
 |.scope b=>Eo b
 |_=>0
def Wf:List Sh→Type→Type
 |[],T=>T
 |.raw::r,T=>PV×Wf r T
 |.int _::r,T=>Int×Wf r T
 |.bool::r,T=>Bool×Wf r T
 |.str::r,T=>Bytes×Wf r T
 |.rs _::r,T=>List PV×Wf r T
 |.rp _::r,T=>PV×Wf r T
 |.fs _::r,T=>List PV×Wf r T
 |.row _ _::r,T=>Int×Wf r T
 |.own _::r,T=>Wf r T
def QD:List (Nat×GH)→Type
 |[]=>Unit
 |(_,.box cs)::r=>Wf cs (QD r)
 |(_,.arr _ _)::r=>List PV×QD r
 |(_,.vK _ _)::r=>List PV×QD r
 |(_,.map _)::r=>List (PV×PV)×QD r
 |(_,.nest _ _)::r=>List PV×QD r
 |(_,.fU _ _)::r=>List (PV×PV)×QD r
 |(_,.loop)::r=>QD r
 |(_,.busy)::r=>QD r
 |(_,.iter _)::r=>List (PV×PV)×QD r
def NL.l5(T:NL):List Sh:=T.cj.map Prod.snd
abbrev NL.ty(T:NL):Type:=Wf T.l5 (QD T.FB)
mutual
def V.same:V→V→Bool
 |.op i o,.op j p=>Nat.beq i j&&Nat.beq o p
 |.oe i a o,.oe j b p=>Nat.beq i j&&Nat.beq a b&&Nat.beq o p
 |.os i,.os j=>Nat.beq i j
 |.om i,.om j=>Nat.beq i j
 |.yl i,.yl j=>Nat.beq i j
 |.it i,.it j=>Nat.beq i j
 |.jC,.jC=>true
 |.pv .vT,.pv .vT=>true
 |.pv .A3,.pv .A3=>true
 |.pv (.int q x),.pv (.int q' y)=>decide (q=q')&&decide (x=y)
 |.fn f cs,.fn g ds=>Nat.beq f g&&NP cs ds
 |_,_=>false
def NP:List V→List V→Bool
 |[],[]=>true
 |a::as,b::bs=>a.same b&&NP as bs
 |_,_=>false
end
section
variable {R:Type}
def l6{T:Type}:(l5:List Sh)→List V→T→(Wf l5 T→Option R)→Option R
 |[],[],t,k=>k t
 |.int q::l5,.pv (.int q' n)::vs,t,k=>if q'=q then l6 l5 vs t (fun r=>k (n,r))else none
 |.raw::l5,.pv p::vs,t,k=>l6 l5 vs t (fun r=>k (p,r))
 |.bool::l5,.pv (.bool b)::vs,t,k=>l6 l5 vs t (fun r=>k (b,r))
 |.str::l5,.pv (.str s)::vs,t,k=>l6 l5 vs t (fun r=>k (s,r))
 |.rs sz::l5,.pv (.rs M8 es)::vs,t,k=>if M8=sz then l6 l5 vs t (fun r=>k (es,r))else none
 |.rp n::l5,.pv (.rp cs)::vs,t,k=>if cs.length=n then l6 l5 vs t (fun r=>k (.agg cs,r))else none
 |.fs s::l5,.pv p::vs,t,k=>(rdL s p).bind fun ls=>l6 l5 vs t (fun r=>k (ls,r))
 |.row id off::l5,.CC yn i Ba::vs,t,k=>if yn=id∧Ba=off then l6 l5 vs t (fun r=>k ((i:Int),r))else none
 |.own v::l5,u::vs,t,k=>if v.same u then l6 l5 vs t k else none
 |_,_,_,_=>none
def Ao(m:Mem):(bs:List (Nat×GH))→(QD bs→Option R)→Option R
 |[],k=>k ()
 |(id,.box cs)::r,k=>match m id with
  |some (.box vs)=>Ao m r fun t=>l6 (T:=QD r) cs vs t k
  |_=>none
 |(id,.arr sz et)::r,k=>match m id with
  |some (.arr M8 M9 es)=>if M8=sz∧M9=et then Ao m r fun t=>k (es,t)else none
  |_=>none
 |(id,.vK sz et)::r,k=>match m id with
  |some (.vK M8 M9 es)=>if M8=sz∧M9=et then Ao m r fun t=>k (es,t)else none
  |_=>none
 |(id,.map kt)::r,k=>match m id with
  |some (.map Cx es)=>if Cx=kt then Ao m r fun t=>k (es,t)else none
  |_=>none
 |(id,.nest sz et)::r,k=>match m id with
  |some (.nest M8 M9 es)=>if M8=sz∧M9=et then Ao m r fun t=>k (es,t)else none
  |_=>none
 |(id,.fU kt e)::r,k=>match m id with
  |some (.fU Cx e' es)=>if Cx=kt∧e'=e then Ao m r fun t=>k (es,t)else none
  |_=>none
 |(id,.loop)::r,k=>match m id with
  |some (.loop .ready)=>Ao m r k
  |_=>none
 |(id,.busy)::r,k=>match m id with
  |some (.loop .busy)=>Ao m r k
  |_=>none
 |(id,.iter t)::r,k=>match m id with
  |some (.iter t' es none)=>if t'=t then Ao m r fun u=>k (es,u)else none
  |_=>none
def Sh.within(M:List Nat):Sh→Bool
 |.own v=>v.within M
 |.row id _=>M.elem id
 |_=>true
def GH.within(M:List Nat):GH→Bool
 |.box cs=>cs.all (·.within M)
 |_=>true
def NL.ok(T:NL):Bool:=T.cj.all (fun x=>x.2.within (T.FB.map (·.1)))&&T.FB.all (fun x=>x.2.within (T.FB.map (·.1)))
def KL:List Sh→List V→Bool
 |[],[]=>true
 |.raw::l5,.pv _::vs=>KL l5 vs
 |.int q::l5,.pv (.int q' _)::vs=>decide (q'=q)&&KL l5 vs
 |.bool::l5,.pv (.bool _)::vs=>KL l5 vs
 |.str::l5,.pv (.str _)::vs=>KL l5 vs
 |.rs sz::l5,.pv (.rs M8 _)::vs=>Nat.beq M8 sz&&KL l5 vs
 |.rp n::l5,.pv (.rp cs)::vs=>Nat.beq cs.length n&&KL l5 vs
 |.fs s::l5,.pv p::vs=>(rdL s p).isSome&&KL l5 vs
 |.row id off::l5,.CC yn _ Ba::vs=>Nat.beq yn id&&Nat.beq Ba off&&KL l5 vs
 |.own v::l5,u::vs=>v.same u&&KL l5 vs
 |_,_=>false
def Nh(m:Mem):List (Nat×GH)→Bool
 |[]=>true
 |(id,.box cs)::r=>(match m id with|some (.box vs)=>KL cs vs|_=>false)&&Nh m r
 |(id,.arr sz _)::r=>(match m id with|some (.arr M8 _ _)=>Nat.beq M8 sz|_=>false)&&Nh m r
 |(id,.vK sz _)::r=>(match m id with|some (.vK M8 _ _)=>Nat.beq M8 sz|_=>false)&&Nh m r
 |(id,.map _)::r=>(match m id with|some (.map _ _)=>true|_=>false)&&Nh m r
 |(id,.nest sz _)::r=>(match m id with|some (.nest M8 _ _)=>Nat.beq M8 sz|_=>false)&&Nh m r
 |(id,.fU _ _)::r=>(match m id with|some (.fU _ _ _)=>true|_=>false)&&Nh m r
 |(id,.loop)::r=>(match m id with|some (.loop .ready)=>true|_=>false)&&Nh m r
 |(id,.busy)::r=>(match m id with|some (.loop .busy)=>true|_=>false)&&Nh m r
 |(id,.iter _)::r=>(match m id with|some (.iter _ _ none)=>true|_=>false)&&Nh m r
def fits(f:Fr)(m:Mem)(T:NL):Bool:=Nh m T.FB&&KL T.l5 (T.cj.map fun(x:Nat×Sh)=>f x.1)
def enc(T:NL)(f:Fr)(m:Mem)(k:T.ty→Option R):Option R:=if T.ok then Ao m T.FB fun t=>l6 (T:=QD T.FB) T.l5 (T.cj.map fun(x:Nat×Sh)=>f x.1) t k else none
end
def yo{T:Type}:(l5:List Sh)→Wf l5 T→List V×T
 |[],t=>([],t)
 |.int q::l5,x=>let r:=yo l5 x.2;(.pv (.int q x.1)::r.1,r.2)
 |.raw::l5,x=>let r:=yo l5 x.2;(.pv x.1::r.1,r.2)
 |.bool::l5,x=>let r:=yo l5 x.2;(.pv (.bool x.1)::r.1,r.2)
 |.str::l5,x=>let r:=yo l5 x.2;(.pv (.str x.1)::r.1,r.2)
 |.rs sz::l5,x=>let r:=yo l5 x.2;(.pv (.rs sz x.1)::r.1,r.2)
 |.rp n::l5,x=>let r:=yo l5 x.2;(.pv (.rp (aQ n x.1))::r.1,r.2)
 |.fs s::l5,x=>let r:=yo l5 x.2;(.pv (Pj s ((List.range s.n).map fun j=>x.1.getD j .bad)).1::r.1,r.2)
 |.row id off::l5,x=>let r:=yo l5 x.2;(.CC id x.1.toNat off::r.1,r.2)
 |.own v::l5,x=>let r:=yo (T:=T) l5 x;(v::r.1,r.2)
def iV:(bs:List (Nat×GH))→QD bs→List (Nat×Option bX)
 |[],_=>[]
 |(id,.box cs)::r,x=>let y:=yo (T:=QD r) cs x;(id,some (.box y.1))::iV r y.2
 |(id,.arr sz et)::r,x=>(id,some (.arr sz et x.1))::iV r x.2
 |(id,.vK sz et)::r,x=>(id,some (.vK sz et x.1))::iV r x.2
 |(id,.map kt)::r,x=>(id,some (.map kt x.1))::iV r x.2
 |(id,.nest sz et)::r,x=>(id,some (.nest sz et x.1))::iV r x.2
 |(id,.fU kt e)::r,x=>(id,some (.fU kt e x.1))::iV r x.2
 |(id,.loop)::r,x=>(id,some (.loop .ready))::iV (r:List (Nat×GH)) x
 |(id,.busy)::r,x=>(id,some (.loop .busy))::iV (r:List (Nat×GH)) x
 |(id,.iter t)::r,x=>(id,some (.iter t x.1 none))::iV r x.2
def vY:List (Nat×Sh)→List V→List (Nat×V)
 |(t,_)::r,v::vs=>(t,v)::vY r vs
 |_,_=>[]
def TY(T:NL)(x:T.ty):Fr:=TS (vY T.cj (yo (T:=QD T.FB) T.l5 x).1)
def KM(T:NL)(x:T.ty):Mem:=Kz (iV T.FB (yo (T:=QD T.FB) T.l5 x).2)
def Jf{A:Type}:List (Nat×Nat)→Fr→Mem→(Fr→Mem→A)→A
 |[],f,m,k=>k f m
 |(t,sz)::r,f,m,k=>match f t with
  |.os id=>match m id with
   |some (.arr s et es)=>Jf r (ij f t (.pv (.rs s es))) (aD m id (.vK s et es)) k
   |some (.vK s _ es)=>Jf r (ij f t (.pv (.rs s es))) m k
   |_=>Jf r f m k
  |.jC=>Jf r (ij f t (.pv (.rs sz []))) m k
  |_=>Jf r f m k
def NQ{A:Type}:List (Nat×Nat×Nat)→Mem→(Mem→A)→A
 |[],m,k=>k m
 |(id,j,sz)::r,m,k=>match m id with
  |some (.box cs)=>match cs[j]? with
   |some .jC=>NQ r (aD m id (.box (cs.set j (.pv (.rs sz []))))) k
   |_=>NQ r m k
  |_=>NQ r m k
def Jg{A:Type}(P:Program):List (Nat×Nat×Nat×TypeId)→Mem→(Mem→A)→A
 |[],m,k=>k m
 |(id,j,nid,et)::r,m,k=>match m id with
  |some (.box cs)=>match cs[j]? with
   |some .jC=>match m nid with
    |none=>if 0<bj P et then Jg P r (aD (aD m nid (.arr (bj P et) et [])) id (.box (cs.set j (.os nid)))) k else Jg P r m k
    |some _=>Jg P r m k
   |_=>Jg P r m k
  |_=>Jg P r m k
def Ra{A:Type}:List Nat→Mem→(Mem→A)→A
 |[],m,k=>k m
 |id::r,m,k=>match m id with
  |some (.arr s et es)=>Ra r (aD m id (.nest s et es)) k
  |_=>Ra r m k
def Jh{A:Type}:List (Nat×Nat)→Fr→Mem→(Fr→Mem→A)→A
 |[],f,m,k=>k f m
 |(id,j)::r,f,m,k=>match m id with
  |some (.box cs)=>match cs[j]? with
   |some (.gx a 0 len)=>match m a with
    |some (.arr s et es)=>if Nat.beq a id then Jh r f m k else Jh r (fD a f) (aD (aD (bF (bS a m) a) a (.arr s et (es.take len))) id (.box ((cs.map (yz a)).set j (.os a)))) k
    |_=>Jh r f m k
   |_=>Jh r f m k
  |_=>Jh r f m k
def NR{A:Type}(P:Program)(T:NL)(f:Fr)(m:Mem)(k:Fr→Mem→A):A:=Jh T.ct f m fun f m=>Jg P T.bo m fun m=>NQ T.bz m fun m=>Ra T.nz m fun m=>Jf T.fz f m k
variable{R:Type}
def Ex.Rb(k1:Fr→Mem→Option R)(k:Ex→Fr→Mem→Option R):Ex→Fr→Mem→Option R
 |.normal,f,m=>k1 f m
 |e,f,m=>k e f m
def Ex.abX(id:Nat)(k:Ex→Fr→Mem→Option R):Ex→Fr→Mem→Option R
 |.exit j,f,m=>if j=id then k .normal f m else k (.exit j) f m
 |e,f,m=>k e f m
def Ex.jmp:Ex→Option Jmp
 |.normal=>none
 |.exit id=>some (.exit id)
 |.ret=>some .ret
def Jmp.ex:Jmp→Ex
 |.ret=>.ret
 |.exit id=>.exit id
def Wg(n:Nat)(g f:Fr):Fr:=fun t=>bif Nat.blt t n then g t else f (t-n)
def KN:List Nat→List V→Fr→Fr
 |p::ps,v::vs,f=>KN ps vs (ij f p v)
 |_,_,f=>f
def roundOf(as b:Fr→Mem→(Ex→Fr→Mem→Option R)→Option R)(lid n:Nat)(ps:List Nat)(nt:Nat)(args:List V)(F:Fr)(m:Mem)(k:V→Fr→Mem→Option R):Option R:=
 match m lid with
 |some (.loop .ready)=>if args.length=ps.length then
  as (Wg n (KN ps args (CF nt F)) F) m fun e f m=>match e,m lid with
   |.normal,some (.loop .ready)=>b f (aD m lid (.loop .busy)) fun e f m=>match m lid with
    |some (.loop .busy)=>match e.jmp with
     |none=>k (.pv (.bool true)) (CF n f) (aD m lid (.loop .ready))
     |some j=>k (.pv (.bool false)) (CF n f) (aD m lid (.loop (.done j)))
    |_=>none
   |_,_=>none
  else none
 |_=>none
def ai0:V→Option (FuncId×List V)
 |.fn g caps=>bif Nat.blt g KA then some (g,caps)else none
 |.pv (.fn g caps)=>bif Nat.blt g KA then some (g,caps.map .pv)else none
 |_=>none
def amA(E:Env)(o:Oper):Bool:=match o.op with
 |.call c=>match c.callee with
  |.value (.func g)=>(E.ctx g).isNone&&(E.own g).isNone
  |_=>false
 |_=>false
def amB(E:Env)(o:Oper):Bool:=match o.op with
 |.call c=>match c.callee with
  |.value (.func g)=>(E.ctx g).isNone&&(E.own g).isSome
  |_=>false
 |_=>false
def agD(E:Env)(ops:Array Oper):Option Nat:=ops.toList.findIdx? (amA E)
def abY(ops:Array Oper)(p:Nat):Bool:=match ops[p]? with
 |none=>false
 |some o=>o.guard.isNone&&o.after.toList.all (fun e=> !(Region.binds .any e)||Nat.blt e.on p)&&((List.range ops.size).zip ops.toList).all fun x=>bif Nat.blt x.1 p then reach ops 8 o x.1 else Nat.beq x.1 p||reach ops 8 x.2 p
noncomputable def gk:(E:Env)→{R:Type}→Code→Fr→Mem→(Ex→Fr→Mem→Option R)→Option R
 |E,_,.skip,f,m,k=>k .normal f m
 |E,R,.region _ ops draw,f,m,k=>
  if draw then
   match agD E ops with
   |some p=>if abY ops p&&sA ops [] (((List.range ops.size).zip ops.toList).take p)&&sA ops [] (((List.range ops.size).zip ops.toList).drop (p+1))then
     cw E ops 2 (ops.size+1) R [] (((List.range ops.size).zip ops.toList).take p) f m [] fun f m=>
     cw E ops 0 3 R [] ((((List.range ops.size).zip ops.toList).drop p).take 1) f m [] fun f m=>
     cw E ops 2 (ops.size+1) R [] (((List.range ops.size).zip ops.toList).drop (p+1)) f m [] fun f m=>k .normal f m
    else none
   |none=>
   (if sA ops [] ((List.range ops.size).zip ops.toList)then
    (if ops.toList.all (fun o=>fW o&& !amB E o)then cw E ops 1 (ops.size+1) R [] ((List.range ops.size).zip ops.toList) f m [] fun f m=>k .normal f m
    else cw E ops 2 (ops.size+1) R [] ((List.range ops.size).zip ops.toList) f m [] fun f m=>k .normal f m)
   else none)
  else cw E ops 0 (ops.size+ops.size+1) R [] ((List.range ops.size).zip ops.toList) f m [] fun f m=>k .normal f m
 |E,R,.seq a b,f,m,k=>gk E a f m (Ex.Rb (fun f m=>gk E b f m k) k)
 |E,R,.cond c a b,f,m,k=>match c,bR E f c with
  |.tmp x,.pv (.bool t)=>if t then gk E a (ij f x (.pv (.bool true))) m k else gk E b (ij f x (.pv (.bool false))) m k
  |_,_=>none
 |E,R,.block id b,f,m,k=>gk E b f m (Ex.abX id k)
 |E,R,.loop b,f,m,k=>match(E.hint E.fid (Eo b)).find? (fun T=>NR E.P T f m fun f m=>fits f m T)with
  |some T=>NR E.P T f m fun f m=>enc T f m (E.lp.run fun s rec=>gk E b (TY T s) (KM T s) (Ex.Rb (fun f m=>NR E.P T f m fun f m=>enc T f m rec) k))
  |none=>Q9 (fun f m rec=>gk E b f m (Ex.Rb rec k)) E.u f m
 |E,R,.exit id,f,m,k=>k (.exit id) f m
 |E,R,.ret,f,m,k=>k .ret f m
 |E,R,.label _,f,m,k=>k .normal f m
 |E,R,.scope b,f,m,k=>gk E b f m k
 |E,R,.rangeFunc g ps as b,f,m,k=>if E.rdb then none else match ps.toList with
  |p0::_=>fresh true (cS E (some p0)) (.loop .ready) f m fun f m _=>match ai0 (bR E f g)with
   |some (gid,caps)=>E.rng R gid (cS E (some p0)*4096+gid) (fun _ nt site id args F m k=>bif Nat.beq id (cS E (some p0))then
     roundOf (gk {E with fid:=site*4096+E.fid%4096,yl:=HX,rdb:=true} as) (gk {E with fid:=site*4096+E.fid%4096,yl:=HX,rdb:=true} b) (cS E (some p0)) E.fn.ntmps ps.toList nt args F m k
     else none)
    (.yl (cS E (some p0))::caps) f m fun _ f m=>match m (cS E (some p0))with
     |some (.loop .ready)=>k .normal (fD (cS E (some p0)) f) (bF (bS (cS E (some p0)) m) (cS E (some p0)))
     |some (.loop (.done j))=>k j.ex (fD (cS E (some p0)) f) (bF (bS (cS E (some p0)) m) (cS E (some p0)))
     |_=>none
   |_=>none
  |[]=>none
 |_,_,_,_,_,_=>none
def GP(E:Env){R:Type}(f:Fr)(m:Mem):List ResultVar→(List V→Option R)→Option R
 |[],k=>k []
 |.tmp t::rs,k=>GP E f m rs fun vs=>k (bR E f (.tmp t)::vs)
 |.cell a t::rs,k=>uO E false t (bR E f (.tmp a)) m fun v _=>GP E f m rs fun vs=>k (v::vs)
def abZ(E:Env)(rs:List ResultVar)(f:Fr)(m:Mem):Option PV:=GP E f m rs fun vs=>match vs with
  |[v]=>nv m fl v
  |vs=>(uZ (nv m fl) vs).bind fun ps=>some (.aG ps)
section
variable {R:Type} (E:Env)
def Pq(t:TypeId)(p:PV)(k:PV→Option R):Option R:=
 match E.P.underlying t with
 |some (.int _)=>jE E t p k
 |some .bool=>jE E t p k
 |some .string=>jE E t p k
 |some (.slice _)=>jE E t p k
 |some (.map _ _)=>jE E t p k
 |_=>k p
def va:List TypeId→List PV→(List PV→Option R)→Option R
 |t::ts,p::ps,k=>Pq E t p fun q=>va ts ps fun qs=>k (q::qs)
 |_,ps,k=>k ps
def Kg(n:Nat)(p:PV)(a:Option R)(b:PV→Option R):Option R:=
 match p with
 |.vT=>a
 |.rp cs=>if n≤cs.length then b (.agg cs)else none
 |_=>none
def ab0(t:TypeId)(p:PV)(k:PV→Option R):Option R:=
 match E.P.underlying t with
 |some (.struct _)=>(asAgg (bj E.P t) p).bind fun _=>match KI E.P 8 t with
  |some ts=>va E ts (aQ (bj E.P t) p) fun cs=>k (.agg cs)
  |none=>none
 |some (.array _ _)=>(asAgg (bj E.P t) p).bind fun _=>match KI E.P 8 t with
  |some ts=>va E ts (aQ (bj E.P t) p) fun cs=>k (.agg cs)
  |none=>none
 |some (.pointer e)=>Kg (bj E.P e) p (k .vT) fun q=>match KI E.P 8 e with
  |some ts=>va E ts (aQ (bj E.P e) q) fun cs=>k (.rp cs)
  |none=>none
 |_=>Pq E t p k
def FE:List TypeId→List PV→(List PV→Option R)→Option R
 |t::ts,p::ps,k=>ab0 E t p fun q=>FE ts ps fun qs=>k (q::qs)
 |_,ps,k=>k ps
end
def KO(args:List V):Fr:=fun t=>args.getD t .top
noncomputable def Kh(E:Env)(args:List V)(f:Fr)(m:Mem)(k:V→Fr→Mem→Option R):Option R:=
 match E.fn.body with
 |some c=>if args.length≤E.fn.ntmps then gk E c (B2 E.fn.ntmps args f) m (fun e f m=>match e with
  |.exit _=>none
  |_=>GP E f m E.fn.results.toList fun vs=>match vs with
   |[v]=>k v (CF E.fn.ntmps f) m
   |vs=>k (.aG vs) (CF E.fn.ntmps f) m)else none
 |none=>none
def ai1(E:Env)(f:Fr)(m:Mem):Option PV:=
 match E.fn.resultTypes.toList with
 |[t]=>match E.P.underlying t with
  |some (.slice e)=>GP E f m E.fn.results.toList fun vs=>match vs with
   |[.os id]=>match m id with
    |some (.arr sz et es)=>if sz=bj E.P e∧et=e then some (.rs sz es)else none
    |_=>none
   |[.gx id 0 len]=>match m id with
    |some (.arr sz et es)=>if sz=bj E.P e∧et=e then some (.rs sz (es.take len))else none
    |_=>none
   |_=>none
  |_=>none
 |_=>none
noncomputable def Pr(E:Env)(args:List PV):Option PV:=
 match E.fn.body with
 |some c=>if args.length≤E.fn.ntmps then FE E E.fn.params.toList args fun vs=>gk E c (KO (vs.map .pv)) (fun _=>none) (fun e f m=>match e with
  |.exit _=>none
  |_=>ai1 E f m)else none
 |none=>none
noncomputable def eQ(E:Env)(args:List PV):Option PV:=
 match E.fn.body with
 |some c=>if args.length≤E.fn.ntmps then FE E E.fn.params.toList args fun vs=>gk E c (KO (vs.map .pv)) (fun _=>none) (fun e f m=>match e with
  |.normal=>abZ E E.fn.results.toList f m
  |.ret=>abZ E E.fn.results.toList f m
  |.exit _=>none)else none
 |none=>none
end Go.Ab
