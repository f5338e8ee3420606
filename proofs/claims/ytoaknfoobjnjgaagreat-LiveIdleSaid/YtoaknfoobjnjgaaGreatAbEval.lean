import Derived.Test.YtoaknfoobjnjgaaGreatAbDefs
import Derived.Deep.Quiet
set_option linter.all false
namespace Go.Ab
inductive FS where
 |raw
 |fn (g:FuncId) (caps:List FS)
 |ptr (cells:List FS)
mutual
def rdL:FS→PV→Option (List PV)
 |.raw,p=>some [p]
 |.fn g cs,.fn g' qs=>if g'=g then Np cs qs else none
 |.ptr cs,.rp qs=>Np cs qs
 |_,_=>none
def Np:List FS→List PV→Option (List PV)
 |[],[]=>some []
 |s::ss,p::ps=>(rdL s p).bind fun a=>(Np ss ps).bind fun b=>some (a++b)
 |_,_=>none
end
mutual
def Lb:FS→List PV→PV×List PV
 |.raw,[]=>(.bad,[])
 |.raw,p::r=>(p,r)
 |.fn g cs,l=>(.fn g (EM cs l).1,(EM cs l).2)
 |.ptr cs,l=>(.rp (EM cs l).1,(EM cs l).2)
def EM:List FS→List PV→List PV×List PV
 |[],l=>([],l)
 |s::ss,l=>((Lb s l).1::(EM ss (Lb s l).2).1,(EM ss (Lb s l).2).2)
end
mutual
def FS.n:FS→Nat
 |.raw=>1
 |.fn _ cs=>nFs cs
 |.ptr cs=>nFs cs
def nFs:List FS→Nat
 |[]=>0
 |s::ss=>s.n+nFs ss
end
inductive Sh where
 |raw
 |int (q:IntKind)
 |bool
 |str
 |rs (sz:Nat)
 |rp (n:Nat)
 |fs (s:FS)
 |row (id off:Nat)
 |own (v:V)
inductive AZ where
 |box (cs:List Sh)
 |arr (sz:Nat) (et:TypeId)
 |rE (sz:Nat) (et:TypeId)
 |map (kt:TypeId)
 |nest (sz:Nat) (et:TypeId)
 |fH (kt e:TypeId)
 |loop
 |busy
 |iter (t:TypeId)
structure JF where
 bV:List (Nat×Sh)
 Bw:List (Nat×AZ)
 fz:List (Nat×Nat):=[]
 bz:List (Nat×Nat×Nat):=[]
 bo:List (Nat×Nat×Nat×TypeId):=[]
 nz:List Nat:=[]
 ct:List (Nat×Nat):=[]
structure bw where
 run:{S R:Type}→(S→(S→Option R)→Option R)→S→Option R
 room:Nat→Bool
 wZ:∀n,room n=true→(n:Int)≤IntKind.i64.max
def bX{S R:Type}(body:S→(S→Option R)→Option R):Nat→S→Option R
 |0,_=>none
 |n+1,s=>body s (bX body n)
abbrev YL:=(R:Type)→Nat→Nat→Nat→List V→Fr→Mem→(V→Fr→Mem→Option R)→Option R
def Bx:YL:=fun _ _ _ _ _ _ _ _=>none
structure Env where
 P:Program
 ctx:FuncId→Option (List PV→Option PV)
 aF:Nat→Option (List PV)
 fid:FuncId
 fn:Func
 lp:bw
 hint:Nat→Nat→List JF
 u:Nat
 own:FuncId→Option (List PV→Option PV)
 inl:(R:Type)→FuncId→Nat→List V→Fr→Mem→(V→Fr→Mem→Option R)→Option R
 rng:(R:Type)→FuncId→Nat→YL→List V→Fr→Mem→(V→Fr→Mem→Option R)→Option R
 yl:YL
 rdb:Bool:=false
 fnr:FuncId→Option FS:=fun _=>none
 DR:Nat→Bool:=fun _=>false
section
variable {R:Type} (E:Env)
def cS(kt:TypeId)(p:PV)(a:Option R)(b:List PV→List PV→Option R):Option R:=
 match p with
 |.nW=>a
 |.rm yH ks vs=>if yH=kt then b ks vs else none
 |_=>none
def lq(n:Nat)(p:PV)(a:Option R)(b:PV→Option R):Option R:=
 match p with
 |.oh=>a
 |.rp cs=>if n≤cs.length then b (.agg cs)else none
 |_=>none
def ij(t:TypeId)(p:PV)(k:PV→Option R):Option R:=
 match E.P.underlying t with
 |some (.int q)=>(asInt q p).bind fun n=>k (.int q n)
 |some .bool=>(asBool p).bind fun b=>k (.bool b)
 |some .string=>(bt p).bind fun s=>k (.str s)
 |some (.slice e)=>(ak (aW E.P e) p).bind fun es=>k (.rs (aW E.P e) es)
 |some (.struct _)=>(asAgg (aW E.P t) p).bind fun _=>k (.agg (aM (aW E.P t) p))
 |some (.array _ _)=>(asAgg (aW E.P t) p).bind fun _=>k (.agg (aM (aW E.P t) p))
 |some (.pointer e)=>lq (aW E.P e) p (k .oh) fun q=>k (.rp (aM (aW E.P e) q))
 |some (.map kt _)=>cS kt p (k .nW) fun ks vs=>k (.rm kt ks vs)
 |some (.func _ _ _)=>match p with
  |.AM=>k .AM
  |.fn g cs=>k (.fn g cs)
  |_=>none
 |some (.interface _)=>(Sr p).bind fun b=>k (.Uu b)
 |_=>none
def Cy(t:TypeId)(v:V)(k:V→Option R):Option R:=
 match v with
 |.pv p=>ij E t p fun p=>k (.pv p)
 |.top=>none
 |v=>if(E.P.underlying t).isSome then k v else none
def EN:List TypeId→List PV→(List V→Option R)→Option R
 |[],[],k=>k []
 |t::ts,p::ps,k=>ij E t p fun q=>EN ts ps fun vs=>k (.pv q::vs)
 |_,_,_=>none
def EO(ts:List TypeId)(r:PV)(k:V→Option R):Option R:=
 match ts with
 |[]=>(cz 0 r).bind fun _=>k (.aV [])
 |[t]=>ij E t r fun q=>k (.pv q)
 |ts=>(cz ts.length r).bind fun vs=>EN E ts ((List.range ts.length).map fun j=>vs.getD j .bad) fun us=>k (.aV us)
def DS(fid:FuncId)(ts:List TypeId)(r:PV)(k:V→Option R):Option R:=
 match E.fnr fid with
 |some s=>(rdL s r).bind fun ls=>k (.pv (Lb s ((List.range s.n).map fun j=>ls.getD j .bad)).1)
 |none=>EO E ts r k
def bF(f:Fr):Operand→V
 |.tmp t=>bif Nat.blt t E.fn.ntmps then f t else .top
 |.const c=>JE c
 |.global g=>match E.aF g with|some cs=>.pv (.rp cs)|none=>.top
 |.func f=>bif Nat.blt f Gp then .fn f []else .top
def fresh(draw:Bool)(site:Nat)(b:bI)(f:Fr)(m:Mem)(k:Fr→Mem→bx→Option R):Option R:=
 match m site with
 |none=>k f (aB m site b) [(true,site)]
 |some _=>if draw||b.names site then none else k (eU site f) (aB (bH site m) site b) [(true,site)]
def sT:V→Option (List V)
 |.pv (.agg cs)=>some (cs.map .pv)
 |.agg cs=>some cs
 |_=>none
def dh:Mem:=fun _=>none
def nX(op:BinOp)(t:TypeId)(a b:V)(k:PV→Option R):Option R:=
 match a,b with
 |.pv (.int q x),.pv (.int q' y)=>match op with
  |.shl=>if y<0 then none else k (.int q (q.wrap (x*2^(min y.toNat q.bits))))
  |.shr=>if y<0 then none else k (.int q (x.fdiv (2^(min y.toNat q.bits))))
  |op=>if q=q' then match op with
   |.add=>k (.int q (q.wrap (x+y)))
   |.sub=>k (.int q (q.wrap (x-y)))
   |.mul=>k (.int q (q.wrap (x*y)))
   |.quo=>if y=0 then none else k (.int q (q.wrap (x.tdiv y)))
   |.rem=>if y=0 then none else k (.int q (x.tmod y))
   |.and=>k (.int q (q.wrap (BitVec.ofInt q.bits x&&&BitVec.ofInt q.bits y).toNat))
   |.or=>k (.int q (q.wrap (BitVec.ofInt q.bits x|||BitVec.ofInt q.bits y).toNat))
   |.xor=>k (.int q (q.wrap (BitVec.ofInt q.bits x^^^BitVec.ofInt q.bits y).toNat))
   |.andNot=>k (.int q (q.wrap (BitVec.ofInt q.bits x&&& ~~~(BitVec.ofInt q.bits y)).toNat))
   |.eql=>k (.bool (x==y))
   |.neq=>k (.bool (x !=y))
   |.lss=>k (.bool (decide (x<y)))
   |.leq=>k (.bool (decide (x≤y)))
   |.gtr=>k (.bool (decide (x>y)))
   |.geq=>k (.bool (decide (x≥y)))
   |_=>none
   else none
 |.pv (.str x),.pv (.str y)=>match op with
  |.add=>if E.lp.room (x.length+y.length)=true then k (.str (x++y))else none
  |.eql=>k (.bool (x==y))
  |.neq=>k (.bool (!(x==y)))
  |.lss=>k (.bool (Op.bytesLess x y))
  |.leq=>k (.bool (Op.bytesLess x y||x==y))
  |.gtr=>k (.bool (!(Op.bytesLess x y||x==y)))
  |.geq=>k (.bool (!(Op.bytesLess x y)))
  |_=>none
 |.pv (.bool x),.pv (.bool y)=>match op,E.P.underlying t with
  |.eql,some .bool=>k (.bool (x==y))
  |.neq,some .bool=>k (.bool (!(x==y)))
  |_,_=>none
 |.pv .oh,.pv .oh=>match op,E.P.underlying t with
  |.eql,some (.pointer _)=>k (.bool true)
  |.neq,some (.pointer _)=>k (.bool false)
  |_,_=>none
 |.fn _ _,.pv .AM|.pv (.fn _ _),.pv .AM=>match op,E.P.underlying t with
  |.eql,some (.func _ _ _)=>k (.bool false)
  |.neq,some (.func _ _ _)=>k (.bool true)
  |_,_=>none
 |.pv (.rp _),.pv .oh|.op _ _,.pv .oh|.oe _ _ _,.pv .oh=>match op,E.P.underlying t with
  |.eql,some (.pointer _)=>k (.bool false)
  |.neq,some (.pointer _)=>k (.bool true)
  |_,_=>none
 |a,b=>if aJ E.P t then match uD E.P t,sT a,sT b with
  |some ks,some as,some bs=>match rF (lU dh 1) as,rF (lU dh 1) bs with
   |some as,some bs=>if ju ks as=true∧ju ks bs=true then match op with
    |.eql=>k (.bool (bR as bs))
    |.neq=>k (.bool (!(bR as bs)))
    |_=>none
    else none
   |_,_=>none
  |_,_,_=>none
  else none
def Gs:Operand→Bool
 |.const .nilIface=>true
 |_=>false
def W6(op:BinOp)(t:TypeId)(a:V)(k:PV→Option R):Option R:=
 match a with
 |.pv (.Uu b)=>match op,E.P.underlying t with
  |.eql,some (.interface _)=>k (.bool (!b))
  |.neq,some (.interface _)=>k (.bool b)
  |_,_=>none
 |_=>none
def Nq(op:BinOp)(t:TypeId)(y:Operand)(a b:V)(k:PV→Option R):Option R:=bif Gs y then W6 E op t a k else nX E op t a b k
noncomputable def agree(a b:Option R):Option R:= @ite _ (a=b) (Classical.propDecidable _) a none
noncomputable def Qo(op:BinOp)(t:TypeId)(es:List PV)(k:Bool→Option R):Option R:=
 match op,E.P.underlying t with
 |.eql,some (.slice _)=>if es.isEmpty=true then agree (k true) (k false)else k false
 |.neq,some (.slice _)=>if es.isEmpty=true then agree (k false) (k true)else k true
 |_,_=>none
def xun(op:UnOp)(a:V)(k:PV→Option R):Option R:=
 match op,a with
 |.not,.pv (.bool b)=>k (.bool !b)
 |.neg,.pv (.int q n)=>k (.int q (q.wrap (0-n)))
 |.xor,.pv (.int q n)=>k (.int q (q.wrap (BitVec.ofInt q.bits (if q.signed then-1 else q.max)^^^BitVec.ofInt q.bits n).toNat))
 |_,_=>none
def Gt(s d:TypeId)(a:V)(k:PV→Option R):Option R:=
 match E.P.underlying s,E.P.underlying d,a with
 |some (.int q),some (.int q'),.pv (.int q'' n)=>if q''=q then(if q'=q then k (.int q n)else k (.int q' (q'.wrap n)))else none
 |some .string,some .string,.pv (.str s)=>k (.str s)
 |_,_,_=>none
def vh(s:Nat)(t:TypeId)(e:PV)(off:Nat)(k:V→Option R):Option R:=
 if aJ E.P t then(if off+aW E.P t≤s then k (.pv (.agg (((aM s e).drop off).take (aW E.P t))))else none)
 else match(aM s e)[off]? with
  |some p=>ij E t p fun p=>k (.pv p)
  |none=>none
def vi:V→Option PV
 |.pv p=>some p
 |_=>none
def W7(cs:List V):V:=match rF vi cs with
 |some ps=>.pv (.agg ps)
 |none=>.agg cs
def DT(t:TypeId)(s i off:Nat):Bool:=match E.P.underlying t with
 |some (.array _ e)=>Nat.beq (aW E.P e) s&&aJ E.P e&&Nat.beq i 0&&Nat.beq off 0
 |_=>false
def si(own:Bool)(t:TypeId)(a:V)(m:Mem)(k:V→bx→Option R):Option R:=
 match a with
 |.pv (.rp cs)=>
  if aJ E.P t then(if aW E.P t≤cs.length then k (.pv (.agg (cs.take (aW E.P t)))) []else none)
  else(cs.head?).bind fun p=>ij E t p fun p=>k (.pv p) []
 |.op id off=>match m id with
  |some (.box cs)=>
   if aJ E.P t then(if off+aW E.P t≤cs.length then k (W7 ((cs.drop off).take (aW E.P t))) [(false,id)]else none)
   else match rF vi cs with
    |some ps=>(ps[off]?).bind fun p=>ij E t p fun p=>k (.pv p) [(false,id)]
    |none=>match cs[off]? with
     |some v=>Cy E t v fun v=>k v [(false,id)]
     |none=>none
  |_=>none
 |.oe id i off=>match m id with
  |some (.arr s _ es)=>bif DT E t s i off then(if es.length*s=aW E.P t then k (.pv (.agg (Cw s es))) [(false,id)]else none)else(es[i]?).bind fun e=>vh E s t e off fun v=>k v [(false,id)]
  |some (.rE s _ es)=>(es[i]?).bind fun e=>vh E s t e off fun v=>k v [(false,id)]
  |some (.nest _ _ es)=>if aJ E.P t then none else(es[i]?).bind fun e=>
   if own then(match E.P.underlying t with
    |some (.slice et)=>(bW (aW E.P et) (cell e off)).bind fun _=>k (.yK id i off) [(false,id)]
    |_=>none)
   else ij E t (cell e off) fun p=>k (.pv p) [(false,id)]
  |_=>none
 |.Cv id i off s j off2=>match m id with
  |some (.nest _ _ es)=>(es[i]?).bind fun e=>(bW s (cell e off)).bind fun rs=>(rs[j]?).bind fun q=>vh E s t q off2 fun v=>k v [(false,id)]
  |_=>none
 |_=>none
def over{T:Type}:List T→List T→List T
 |[],cs=>cs
 |x::new,[]=>x::over new []
 |x::new,_::cs=>x::over new cs
def bN{T:Type}:List T→Nat→List T→List T
 |cs,0,new=>over new cs
 |[],_+1,new=>new
 |c::cs,off+1,new=>c::bN cs off new
theorem Lc{T:Type}:∀(new cs:List T),over new cs=new++cs.drop new.length
 |[],cs=>by rfl
 |x::new,[]=>by simp[over,Lc new []]
 |x::new,_::cs=>by simp[over,Lc new cs]
theorem ek{T:Type}:∀(cs:List T)(off:Nat)(new:List T),bN cs off new=cs.take off++new++cs.drop (off+new.length)
 |cs,0,new=>by cases cs<;>simp[bN,Lc]
 |[],_+1,new=>by simp[bN]
 |c::cs,off+1,new=>by rw[bN,ek cs off new,show off+1+new.length=(off+new.length)+1 by omega];simp
def yL(draw:Bool)(m:Mem)(n:Nat)(agg:Bool)(v:V):Option (PV×Mem):=if draw then(match lj dh n agg v with|some (p,_)=>some (p,m)|none=>none)else lj m n agg v
def setRow(s:Nat)(e:PV)(off:Nat)(p:PV):PV:=if s=1 then p else .agg ((aM s e).set off p)
def setCells(s:Nat)(e:PV)(off n:Nat)(p:PV):PV:=if off=0∧n=s then p else .agg (bN (aM s e) off p.cells)
def Qp(t:TypeId)(i off:Nat)(b:Option bI)(x:V):Option (Nat×TypeId×Nat×PV):=match b,x with
 |some (.arr s et es),.pv p=>bif DT E t s i off then some (s,et,es.length,p)else none
 |_,_=>none
def vj(draw:Bool)(t:TypeId)(a x:V)(m:Mem)(k:Mem→bx→Option R):Option R:=
 match a with
 |.op id off=>match m id with
  |some (.box cs)=>match toCells (aW E.P t) x with
   |some new=>if off+aW E.P t≤cs.length∧0<aW E.P t then k (aB m id (.box (bN cs off new))) [(true,id)]else none
   |none=>none
  |_=>none
 |.oe id i off=>match Qp E t i off (m id) x with
  |some (s,et,n,p)=>(asAgg (aW E.P t) p).bind fun _=>if n*s=aW E.P t∧0<aW E.P t then k (aB m id (.arr s et (pX s n p))) [(true,id)]else none
  |none=>match yL draw m (aW E.P t) (aJ E.P t) x with
  |some (p,m)=>match m id with
   |some (.arr s et es)=>(es[i]?).bind fun e=>
    if off=0∧aW E.P t=s∧0<s then k (aB m id (.arr s et (es.set i p))) [(true,id)]
    else if off+aW E.P t≤s∧0<aW E.P t∧1<s then k (aB m id (.arr s et (es.set i (.agg (bN (aM s e) off p.cells))))) [(true,id)]
    else none
   |some (.nest s et es)=>(es[i]?).bind fun e=>if off+aW E.P t≤s∧0<aW E.P t∧1<s then k (aB m id (.nest s et (es.set i (.agg (bN (aM s e) off p.cells))))) [(true,id)]else none
   |_=>none
  |none=>none
 |.Cv id i off s j off2=>match lj dh (aW E.P t) (aJ E.P t) x with
  |some (p,_)=>match m id with
   |some (.nest s0 et es)=>(es[i]?).bind fun e=>(bW s (cell e off)).bind fun rs=>(rs[j]?).bind fun q=>
    if off2+aW E.P t≤s∧0<aW E.P t∧off<s0 then k (aB m id (.nest s0 et (es.set i (setRow s0 e off (.jr s (rs.set j (setCells s q off2 (aW E.P t) p))))))) [(true,id)]
    else none
   |_=>none
  |none=>none
 |_=>none
def Jc(m:Mem)(x:V)(k:Nat→bx→Option R):Option R:=
 match x with
 |.pv (.rs _ es)=>k es.length []
 |.gy=>k 0 []
 |.fX id _ len=>match m id with
  |some (.arr _ _ _)=>k len [(false,id)]
  |some (.rE _ _ _)=>k len [(false,id)]
  |_=>none
 |.os id=>match m id with
  |some (.arr _ _ es)=>k es.length [(false,id)]
  |some (.rE _ _ es)=>k es.length [(false,id)]
  |some (.nest _ _ es)=>k es.length [(false,id)]
  |some (.box cs)=>if cs.length≤maxLen then k cs.length [(false,id)]else none
  |_=>none
 |_=>none
def Uv(sz:Nat)(m:Mem)(x:V)(k:Nat→bx→Option R):Option R:=
 match x with
 |.yK id i off=>match m id with
  |some (.nest _ _ es)=>(es[i]?).bind fun e=>(bW sz (cell e off)).bind fun rs=>k rs.length [(false,id)]
  |_=>none
 |x=>Jc m x k
def W8(m:Mem)(x:V)(k:Nat→bx→Option R):Option R:=
 match x with
 |.om id=>match m id with
  |some (.map _ es)=>if es.length≤maxLen then k es.length [(false,id)]else none
  |_=>none
 |.pv .nW=>k 0 []
 |_=>none
def Nr(t:TypeId)(x:V)(m:Mem)(k:V→bx→Option R):Option R:=
 match E.P.underlying t with
 |some (.array n _)=>if n≤maxLen then k (.pv (.int .i64 n)) []else none
 |some .string=>match x with
  |.pv (.str s)=>k (.pv (.int .i64 s.length)) []
  |_=>none
 |some (.slice e)=>Uv (aW E.P e) m x fun n ft=>k (.pv (.int .i64 n)) ft
 |some (.map _ _)=>W8 m x fun n ft=>k (.pv (.int .i64 n)) ft
 |_=>none
def fM(m:Mem)(sz:Nat):V→Option (List PV×bx)
 |.pv (.rs s es)=>if s=sz then some (es,[])else match es with|[]=>some ([],[])|_=>none
 |.gy=>some ([],[])
 |.os id=>match m id with
  |some (.arr s' _ es)=>if s'=sz then some (es,[(false,id)])else none
  |some (.rE s' _ es)=>if s'=sz then some (es,[(false,id)])else none
  |_=>none
 |.fX id lo len=>match m id with
  |some (.arr s' _ es)=>if s'=sz then some ((es.drop lo).take len,[(false,id)])else none
  |some (.rE s' _ es)=>if s'=sz then some ((es.drop lo).take len,[(false,id)])else none
  |_=>none
 |.yK id i off=>match m id with
  |some (.nest _ _ es)=>(es[i]?).bind fun e=>(bW sz (cell e off)).bind fun rs=>some (rs,[(false,id)])
  |_=>none
 |_=>none
def Ld(m:Mem)(sz:Nat)(x:V)(k:List PV→bx→Option R):Option R:=
 match x with
 |.yK id i off=>match m id with
  |some (.nest _ _ es)=>(es[i]?).bind fun e=>(bW sz (cell e off)).bind fun rs=>k rs [(false,id)]
  |_=>none
 |x=>match fM m sz x with
  |some (es,ft)=>k es ft
  |none=>none
def DU:List PV→Option Bytes
 |[]=>some []
 |.int .u8 n::r=>(DU r).map fun b=>UInt8.ofNat n.toNat::b
 |_=>none
def DV(s d:TypeId)(a:V)(m:Mem)(k:PV→bx→Option R):Option R:=
 match E.P.underlying s,E.P.underlying d with
 |some (.slice e),some .string=>match E.P.underlying e,fM m 1 a with
  |some (.int .u8),some (es,ft)=>(DU es).bind fun b=>k (.str b) ft
  |_,_=>none
 |_,_=>Gt E s d a fun p=>k p []
def aC(i:Int)(n:Nat):Prop:=0≤i∧i<(n:Int)
instance (i:Int) (n:Nat):Decidable (aC i n):=inferInstanceAs (Decidable (_∧_))
def du(t:TypeId)(x ix:V)(m:Mem)(k:V→bx→Option R):Option R:=
 match ix with
 |.pv (.int _ i)=>match E.P.underlying t,x with
  |some (.slice e),.pv (.rs s es)=>if s=aW E.P e∧0<s then(yB es i).bind fun p=>k (.pv (.rp (aM s p))) []else none
  |some (.slice e),.os id=>match m id with
   |some (.arr s _ es)=>if s=aW E.P e∧0<s then(if aC i es.length then k (.oe id i.toNat 0) [(false,id)]else none)else none
   |some (.rE s _ es)=>if s=aW E.P e∧0<s then(if aC i es.length then k (.oe id i.toNat 0) [(false,id)]else none)else none
   |some (.nest s _ es)=>if s=aW E.P e∧0<s then(if aC i es.length then k (.oe id i.toNat 0) [(false,id)]else none)else none
   |some (.box cs)=>if aW E.P e=1∧aC i cs.length then k (.op id i.toNat) [(false,id)]else none
   |_=>none
  |some (.slice e),.yK id i0 off=>match m id with
   |some (.nest _ _ es)=>if 0<aW E.P e then(es[i0]?).bind fun e0=>(bW (aW E.P e) (cell e0 off)).bind fun rs=>if aC i rs.length then k (.Cv id i0 off (aW E.P e) i.toNat 0) [(false,id)]else none else none
   |_=>none
  |some (.slice e),.fX id lo len=>match m id with
   |some (.arr s _ _)=>if s=aW E.P e∧0<s then(if aC i len then k (.oe id (lo+i.toNat) 0) [(false,id)]else none)else none
   |some (.rE s _ _)=>if s=aW E.P e∧0<s then(if aC i len then k (.oe id (lo+i.toNat) 0) [(false,id)]else none)else none
   |_=>none
  |some (.array n e),.op id off=>if aC i n∧0<aW E.P e then k (.op id (off+i.toNat*aW E.P e)) []else none
  |some (.array n e),.pv (.rp cs)=>if aC i n∧0<aW E.P e then k (.pv (.rp (cs.drop (i.toNat*aW E.P e)))) []else none
  |some (.array n e),.oe id j off=>if aC i n∧0<aW E.P e then(match(match m id with|some (.arr s _ _)=>Nat.beq (aW E.P e) s|_=>false)with
   |true=>k (.oe id (i.toNat+j) off) [(false,id)]
   |false=>k (.oe id j (off+i.toNat*aW E.P e)) [(false,id)])else none
  |_,_=>none
 |_=>none
def Cz(s:TypeId)(j:Nat):Option (Nat×TypeId):=
 match E.P.underlying s with
 |some (.struct fs)=>match fs[j]? with
  |some f=>if aW E.P f.type=0 then none else some (f.offset,f.type)
  |none=>none
 |_=>none
def kO(s:TypeId)(x:V)(j:Nat)(k:V→Option R):Option R:=
 match Cz E s j with
 |some (o,_)=>match x with
  |.pv (.rp cs)=>k (.pv (.rp (cs.drop o)))
  |.op id off=>k (.op id (off+o))
  |.oe id i off=>k (.oe id i (off+o))
  |.Cv id i off s j off2=>k (.Cv id i off s j (off2+o))
  |_=>none
 |none=>none
def Gu(t:TypeId)(cs:List V)(off:Nat)(k:V→Option R):Option R:=
 if aJ E.P t then(if off+aW E.P t≤cs.length then k (.agg ((cs.drop off).take (aW E.P t)))else none)
 else match cs[off]? with
  |some v=>Cy E t v k
  |none=>none
def Gv(s:TypeId)(x:V)(j:Nat)(k:V→Option R):Option R:=
 match Cz E s j,sT x with
 |some (o,t),some cs=>Gu E t cs o k
 |_,_=>none
def DW(t:TypeId)(x ix:V)(k:V→Option R):Option R:=
 match ix with
 |.pv (.int _ i)=>match E.P.underlying t,x with
  |some .string,.pv (.str s)=>(W5 s i).bind fun b=>k (.pv (.int .u8 b.toNat))
  |some (.array n et),x=>match sT x with
   |some cs=>if aC i n∧0<aW E.P et then Gu E et cs (i.toNat*aW E.P et) k else none
   |none=>none
  |_,_=>none
 |_=>none
def kc(d:Int):Option V→Option Int
 |none=>some d
 |some (.pv (.int _ i))=>some i
 |_=>none
def xc(t:TypeId)(x:V)(lo hi mx:Option V)(m:Mem)(k:V→bx→Option R):Option R:=
 match mx with
 |some mx=>match E.P.underlying t,x with
  |some (.slice e),.os id=>match m id with
   |some (.arr s _ es)=>match lo,hi,mx with
    |none,some (.pv (.int _ h)),.pv (.int _ c)=>if 0≤h∧h≤c∧c≤(es.length:Int)∧s=aW E.P e then k (.fX id 0 h.toNat) [(false,id)]else none
    |_,_,_=>none
   |_=>none
  |_,_=>none
 |none=>match E.P.underlying t,x with
  |some .string,.pv (.str s)=>match kc 0 lo,kc s.length hi with
   |some l,some h=>if 0≤l∧l≤h∧h≤(s.length:Int)then k (.pv (.str ((s.take h.toNat).drop l.toNat))) []else none
   |_,_=>none
  |some (.slice e),.pv (.rs sz es)=>match kc 0 lo,kc es.length hi with
   |some l,some h=>if 0≤l∧l≤h∧h≤(es.length:Int)∧sz=aW E.P e∧aW E.P e≠0 then k (.pv (.rs sz ((es.take h.toNat).drop l.toNat))) []else none
   |_,_=>none
  |some (.slice e),.os id=>match m id with
   |some (.arr s _ es)=>match kc 0 lo,kc es.length hi with
    |some l,some h=>if 0≤l∧l≤h∧h≤(es.length:Int)∧s=aW E.P e then k (.fX id l.toNat (h.toNat-l.toNat)) [(false,id)]else none
    |_,_=>none
   |some (.rE s _ es)=>match kc 0 lo,kc es.length hi with
    |some l,some h=>if 0≤l∧l≤h∧h≤(es.length:Int)∧s=aW E.P e then k (.fX id l.toNat (h.toNat-l.toNat)) [(false,id)]else none
    |_,_=>none
   |_=>none
  |_,_=>none
def placesOf(fs:List Field)(j:Nat):Option (Nat×Nat):=(fs[j]?).map fun f=>(f.offset,aW E.P f.type)
def JG(place:Nat→Option (Nat×Nat))(cs:List V):List (Nat×V)→Option (List V)
 |[]=>some cs
 |(i,v)::rest=>match place i with
  |some (off,size)=>match toCells size v with
   |some new=>if off+size≤cs.length then JG place (bN cs off new) rest else none
   |none=>none
  |none=>none
def da(t:TypeId):Option (List V):=match zeroV E.P t with|some v=>toCells (aW E.P t) v|none=>none
def DX(t:TypeId)(parts:List (Nat×V))(k:V→Option R):Option R:=
 match da E t,E.P.underlying t with
 |some z,some (.struct fs)=>if fs.toList.all (fun f=>(E.P.info? f.type).isSome)then match JG (placesOf E fs.toList) z parts with
  |some cs=>k (.agg cs)
  |none=>none
  else none
 |some z,some (.array _ e)=>if 0<aW E.P e then match JG (fun i=>some (i*aW E.P e,aW E.P e)) z parts with
  |some cs=>k (.agg cs)
  |none=>none
  else none
 |_,_=>none
def fB(m:Mem)(n:Nat)(agg:Bool):Nat→List (Nat×V)→Option (List PV×Mem)
 |_,[]=>some ([],m)
 |i,(j,v)::r=>if i=j then match lj m n agg v with
  |some (p,m)=>match fB m n agg (i+1) r with
   |some (ps,m)=>some (p::ps,m)
   |none=>none
  |none=>none
  else none
def Gw:Nat→List (Nat×V)→Option (List V)
 |_,[]=>some []
 |i,(j,v)::r=>if i=j then match toCells 1 v with
  |some cs=>match Gw (i+1) r with
   |some us=>some (cs++us)
   |none=>none
  |none=>none
  else none
def Ss(t:TypeId):Bool:=match E.P.underlying t with|some (.func _ _ _)=>true|_=>false
def DY(t:TypeId):Option PV:=match zeroV E.P t with
 |some v=>match lU dh 2 v with
  |some p=>if aJ E.P t=p.isAgg∧p.cells.length=aW E.P t∧p.plain=true then some p else none
  |none=>none
 |none=>none
def keyOf(kt:TypeId)(v:V):Option PV:=
 match uD E.P kt with
 |some ks=>
  if aJ E.P kt then(match sT v with
   |some cs=>match rF (lU dh 1) cs with
    |some ps=>if ju ks ps then some (.agg ps)else none
    |none=>none
   |none=>none)
  else match v with
   |.pv p=>if ju ks [p]then some p else none
   |_=>none
 |none=>none
def Ns(site:Nat)(t:TypeId)(x ix:V)(m:Mem)(k:V→Mem→bx→Option R):Option R:=
 match E.P.underlying t with
 |some (.map kt et)=>match E.P.underlying et with
  |some (.slice e)=>match x,zeroV E.P et with
   |.om id,some .gy=>match m id,m site with
    |some (.fH yH e' es),none=>if yH=kt∧e'=e∧0<aW E.P e then(keyOf E kt ix).bind fun key=>(Nn (aW E.P e) key es).bind fun rs=>k (.os site) (aB (aB m id (.fH kt e (wg key es))) site (.arr (aW E.P e) e rs)) [(true,id),(true,site)]else none
    |_,_=>none
   |_,_=>none
  |_=>none
 |_=>none
def xd(t:TypeId)(x ix:V)(ok:Bool)(m:Mem)(k:V→bx→Option R):Option R:=
 match E.P.underlying t with
 |some (.map kt et)=>match DY E et with
  |some z=>match x with
   |.om id=>match m id with
    |some (.map yH es)=>if yH=kt then(keyOf E kt ix).bind fun key=>ij E et (bT key z es) fun v=>k (if ok then .aV [.pv v,.pv (.bool (me key es))]else .pv v) [(false,id)]else none
    |_=>none
   |.pv p=>cS kt p ((keyOf E kt ix).bind fun _=>k (if ok then .aV [.pv z,.pv (.bool false)]else .pv z) []) fun ks vs=>(keyOf E kt ix).bind fun key=>ij E et (bT key z (ks.zip vs)) fun v=>k (if ok then .aV [.pv v,.pv (.bool (me key (ks.zip vs)))]else .pv v) []
   |_=>none
  |none=>none
 |_=>none
def CA(draw:Bool)(m:Mem)(v:V):Option (PV×Mem):=if draw then(match wY dh v with|some (p,_)=>some (p,m)|none=>none)else wY m v
def pY(draw:Bool)(t:TypeId)(x key val:V)(m:Mem)(k:Mem→bx→Option R):Option R:=
 match E.P.underlying t with
 |some (.map kt _)=>match x with
  |.om id=>match CA draw m val with
   |some (v,m)=>match m id with
    |some (.map yH es)=>if yH=kt then(keyOf E kt key).bind fun key=>k (aB m id (.map kt (dr key v es))) [(true,id)]else none
    |_=>none
   |none=>none
  |_=>none
 |_=>none
def aa:Nat:=140737488355328
def mf(m:Mem):Nat→List V→Option (List PV×Option (Nat×Nat))
 |_,[]=>some ([],none)
 |j,.os id::r=>match m id with
  |some (.arr s _ es)=>match mf m (j+1) r with
   |some (ps,none)=>some (.jr s es::ps,some (j,id))
   |_=>none
  |_=>none
 |j,v::r=>match lU dh 1 v with
  |some p=>match mf m (j+1) r with
   |some (ps,t)=>some (p::ps,t)
   |none=>none
  |none=>none
def elemOf(agg:Bool)(ps:List PV):Option PV:=if agg then some (.agg ps)else match ps with|[p]=>some p|_=>none
inductive Sp where
 |st (id i off s:Nat) (et:TypeId) (es ps:List PV) (id2:Nat)
 |app (id s:Nat) (et:TypeId) (es new:List PV) (src:Option Nat) (rd:bx)
 |lit (s:Nat) (et:TypeId) (p:PV) (id2:Nat)
 |upd (id:Nat) (kt e:TypeId) (es:List (PV×PV)) (key:PV) (s:Nat) (rs:List PV) (id2:Nat)
def Bz(site:Nat)(o:Oper)(f:Fr)(m:Mem):Option Sp:=
 match o.op with
 |.store t a x=>match bF E f a with
  |.oe id i off=>match m id with
   |some (.nest s et es)=>match toCells (aW E.P t) (bF E f x)with
    |some cs=>match mf m 0 cs with
     |some (ps,some (_,id2))=>if off+aW E.P t≤s&&0<aW E.P t&& !(Nat.beq id2 id)then some (.st id i off s et es ps id2)else none
     |_=>none
    |none=>none
   |_=>none
  |_=>none
 |.buildSlice t len parts=>match E.P.underlying t,parts.toList.map fun(i,x)=>(i,bF E f x)with
  |some (.slice e),[(0,v)]=>match toCells (aW E.P e) v with
   |some cs=>match mf m 0 cs,m site with
    |some (ps,some (_,id2)),none=>match elemOf (aJ E.P e) ps with
     |some p=>if Nat.beq len 1&&0<aW E.P e&&aW E.P e≤16777216&&(da E e).isSome then some (.lit (aW E.P e) e p id2)else none
     |none=>none
    |_,_=>none
   |none=>none
  |_,_=>none
 |.call c=>match c.callee,c.args.toList.map (bF E f),c.argTypes.toList with
  |.builtin .append,[.os id,x],[t,t']=>match E.P.underlying t,m id with
   |some (.slice e),some (.nest s et es)=>if et=e&&s=aW E.P e&&decide (t'=t)&&(da E e).isSome&&0<aW E.P e&&0<Jb E.P e then(match x with
    |.os uv=>match m uv with
     |some (.nest s' I4 new)=>if Nat.beq s' s&&decide (I4=et)&& !(Nat.beq uv id)then some (.app id s et es new (some uv) [])else none
     |_=>match fM m s x with
      |some (new,rd)=>if x.has id then none else some (.app id s et es new none rd)
      |none=>none
    |_=>match fM m s x with
     |some (new,rd)=>if x.has id then none else some (.app id s et es new none rd)
     |none=>none)else none
   |_,_=>none
  |_,_,_=>none
 |.mapUpdate t x key v=>match E.P.underlying t,bF E f x,bF E f v with
  |some (.map kt _),.om id,.os id2=>match m id,m id2,keyOf E kt (bF E f key)with
   |some (.fH yH e es),some (.arr s e' rs),some key=>if decide (yH=kt)&&decide (e'=e)&&Nat.beq s (aW E.P e)then some (.upd id kt e es key s rs id2)else none
   |_,_,_=>none
  |_,_,_=>none
 |_=>none
def Sp.info(site:Nat):Sp→Kl×bx
 |.st id _ _ _ _ _ _ id2=>([(true,id2),(false,id)],[(true,id),(true,id2)])
 |.app id _ _ _ _ (some id2) _=>([(true,id2),(true,id)],[(true,id),(true,id2)])
 |.app id _ _ _ _ none rd=>([(true,id)],(true,id)::rd)
 |.lit _ _ _ id2=>([(true,id2)],[(true,site),(true,id2)])
 |.upd id _ _ _ _ _ _ id2=>([(true,id2),(false,id)],[(true,id),(true,id2)])
def xsp(site:Nat)(sp:Sp)(f:Fr)(m:Mem)(k:V→Fr→Mem→bx→Option R):Option R:=
 match sp with
 |.st id i off s et es ps id2=>(es[i]?).bind fun e=>k .top (kf [(true,id2),(false,id)] f) (uE [(id,.nest s et (es.set i (if s=1 then ps.headD .bad else .agg (bN (aM s e) off ps))))] (km [(true,id2),(false,id)] m)) [(true,id),(true,id2)]
 |.app id s et es new src rd=>if(es++new).length*Jb E.P et≤aa then k (.os id) (kf (Sp.app id s et es new src rd|>.info site).1 f) (uE [(id,.nest s et (es++new))] (km (Sp.app id s et es new src rd|>.info site).1 m)) (Sp.app id s et es new src rd|>.info site).2 else none
 |.lit s et p id2=>k (.os site) (kf [(true,id2)] f) (uE [(site,.nest s et [p])] (km [(true,id2)] m)) [(true,site),(true,id2)]
 |.upd id kt e es key s rs id2=>k .top (kf [(true,id2),(false,id)] f) (uE [(id,.fH kt e (dr key (.jr s rs) es))] (km [(true,id2),(false,id)] m)) [(true,id),(true,id2)]
def CB(draw:Bool)(site:Nat)(t t':TypeId)(s x:V)(f:Fr)(m:Mem)(k:V→Fr→Mem→Option R):Option R:=
 if draw|| !(decide (t'=t))then none else
 match E.P.underlying t with
 |some (.slice e)=>if(da E e).isNone then none else match fM m (aW E.P e) x with
  |some (new,_)=>match s with
   |.gy=>if new.length*Jb E.P e≤aa∧0<Jb E.P e∧0<aW E.P e then fresh draw site (.arr (aW E.P e) e new) f m (fun f m _=>k (.os site) f m)else none
   |.os id=>match m id with
    |some (.arr sz et es)=>if et=e∧sz=aW E.P e∧x.has id=false then(if(es++new).length*Jb E.P e≤aa∧0<Jb E.P e then fresh draw id (.arr sz e (es++new)) (eU id f) (br (bH id m) id) (fun f m _=>k (.os id) f m)else none)else none
    |_=>none
   |_=>none
  |none=>none
 |_=>none
def Nt(t:TypeId)(d x:V)(m:Mem)(k:V→Mem→bx→Option R):Option R:=
 match E.P.underlying t with
 |some (.slice e)=>match d with
  |.os id=>match m id with
   |some (.arr sz et es)=>if sz=aW E.P e∧x.has id=false then Ld m sz x fun new ft=>k (.pv (.int .i64 (min new.length es.length:Nat))) (aB m id (.arr sz et (new.take es.length++es.drop new.length))) ((true,id)::ft)else none
   |_=>none
  |_=>none
 |_=>none
def Gx(t:TypeId)(x:V)(m:Mem)(k:V→Mem→bx→Option R):Option R:=
 match E.P.underlying t with
 |some (.slice e)=>match x,DY E e with
  |.fX id lo len,some z=>match m id with
   |some (.arr sz et es)=>if sz=aW E.P e∧et=e∧lo+len≤es.length∧0<aW E.P e then k .top (aB m id (.arr sz et (es.take lo++(List.replicate len z++es.drop (lo+len))))) [(true,id)]else none
   |_=>none
  |_,_=>none
 |_=>none
def sU(draw:Bool)(site:Nat)(t:TypeId)(len cap:V)(f:Fr)(m:Mem)(k:V→Fr→Mem→bx→Option R):Option R:=
 match E.P.underlying t,len,cap with
 |some (.slice e),.pv (.int _ n),.pv (.int _ c)=>match DY E e with
  |some z=>if 0≤n∧n≤c∧c.toNat*Jb E.P e≤aa∧0<Jb E.P e∧0<aW E.P e then fresh draw site (.arr (aW E.P e) e (List.replicate n.toNat z)) f m (fun f m ft=>k (.os site) f m ft)else none
  |none=>none
 |_,_,_=>none
def Nu(a b:V)(k:PV→Option R):Option R:=match a,b with
 |.pv (.int q x),.pv (.int q' y)=>if q=q' then k (.int q (if y<x then y else x))else none
 |_,_=>none
def EP(a b:V)(k:PV→Option R):Option R:=match a,b with
 |.pv (.int q x),.pv (.int q' y)=>if q=q' then k (.int q (if y>x then y else x))else none
 |_,_=>none
def Nv(a b c d:V)(k:PV→Option R):Option R:=EP a b fun p=>EP (.pv p) c fun p=>EP (.pv p) d k
def xe(t:TypeId):Bool:=match E.P.underlying t with|some (.int _)|some .bool|some .string=>true|_=>false
def jz(m:Mem):List V→Option (List PV×Mem)
 |[]=>some ([],m)
 |v::r=>match wY m v with
  |some (p,m)=>match jz m r with
   |some (ps,m)=>some (p::ps,m)
   |none=>none
  |none=>none
def JH:PV→PV
 |.int q n=>.int q n
 |.bool b=>.bool b
 |.str s=>.str s
 |_=>.bad
def yo(draw:Bool)(site:Nat)(fid:FuncId)(args:List V)(f:Fr)(m:Mem)(k:V→Fr→Mem→bx→Option R):Option R:=
 match E.ctx fid with
 |some M=>match E.P.funcs[fid]? with
  |some fn=>
   if fn.resultTypes.toList.all (xe E)then(match rF (lU m fa) args with
     |some ps=>(M ps).bind fun r=>EO E fn.resultTypes.toList r fun v=>k v f m ((jy (cZ m fa) args).map fun i=>(false,i))
     |none=>none)
   else(match jz (if draw then dh else m) args with
     |some (ps,m')=>(M ps).bind fun r=>DS E fid fn.resultTypes.toList r fun v=>k v f (if draw then m else m') (if draw then[]else[(true,0)])
     |none=>none)
  |none=>none
 |none=>match E.own fid with
  |some M=>match E.P.funcs[fid]? with
   |some fn=>match fn.resultTypes.toList with
    |[t]=>match E.P.underlying t with
     |some (.slice e)=>if xe E e=true∧aW E.P e=1 then(match rF (lU m fa) args with
      |some ps=>(M ps).bind fun r=>(ak (aW E.P e) r).bind fun es=>fresh draw site (.arr (aW E.P e) e (es.map JH)) f m fun f m1 ft=>k (.os site) f m1 (ft++(jy (cZ m fa) args).map fun i=>(false,i))
      |none=>none)
      else match jz (if draw then dh else m) args with
      |some (ps,m')=>(M ps).bind fun r=>(ak (aW E.P e) r).bind fun es=>fresh draw site (.arr (aW E.P e) e es) f (if draw then m else m') fun f m ft=>k (.os site) f m ft
      |none=>none
     |_=>none
    |_=>none
   |none=>none
  |none=>if draw then none else E.inl R fid (site*4096+fid) args f m fun v f m=>k v f m [(true,0)]
def W9(f:TypeId→Option (List TypeId)):List Field→Option (List TypeId)
 |[]=>some []
 |x::r=>(f x.type).bind fun a=>(W9 f r).bind fun b=>some (a++b)
def Xa(l:List TypeId):Nat→List TypeId
 |0=>[]
 |n+1=>l++Xa l n
def Gy(P:Program):Nat→TypeId→Option (List TypeId)
 |0,_=>none
 |d+1,t=>match P.underlying t with
  |some (.struct fs)=>W9 (Gy P d) fs.toList
  |some (.array n e)=>(Gy P d e).bind fun l=>some (Xa l n)
  |some _=>some [t]
  |none=>none
def yp(n:Nat)(args:List V)(f:Fr):Fr:=fun t=>bif Nat.blt t n then args.getD t .top else f (t-n)
def yM(n:Nat)(f:Fr):Fr:=fun t=>f (t+n)
def Xb:V→Bool
 |.gy=>true
 |_=>false
def wh(site j:Nat):Nat:=site+(j+1)*1606938044258990275541962092341162602522202993782792835301376
def Ad(E:Env){R:Type}(site:Nat):List TypeId→Nat→Fr→Mem→(Fr→Mem→Option R)→Option R
 |[],_,F,m,k=>k F m
 |t::ts,j,F,m,k=>match F j with
  |.gy=>match E.P.underlying t with
   |some (.slice e)=>if 0<aW E.P e then fresh false (wh site j) (.arr (aW E.P e) e []) F m fun F m _=>Ad E site ts (j+1) (gH F j (.os (wh site j))) m k else none
   |_=>none
  |_=>Ad E site ts (j+1) F m k
def ahd(E:Env)(t:TypeId):Bool:=match E.P.underlying t with|some (.slice _)=>true|_=>false
def Le(f:Fr):Option Operand→Bool
 |none=>true
 |some x=>match bF E f x with|.pv (.int _ _)=>true|_=>false
noncomputable def uF(n:Nat)(g:Nat→Option R):Option R:= @dite _ (∃r,∀i,i<n→g i=some r) (Classical.propDecidable _) (fun h=>some (Classical.choose h)) fun _=>none
def Qq(site:Nat)(t:TypeId)(x:V)(f:Fr)(m:Mem)(k:V→Fr→Mem→Option R):Option R:=
 match E.P.underlying t with
 |some (.map kt _)=>match x with
  |.om id=>match m id with
   |some (.map yH es)=>if yH=kt then fresh false site (.iter t es none) (eU id f) (br (bH id m) id) fun f m _=>k (.it site) f m else none
   |_=>none
  |_=>none
 |_=>none
noncomputable def Xc(x:V)(f:Fr)(m:Mem)(k:V→Fr→Mem→Option R):Option R:=
 match x with
 |.it id=>match m id with
  |some (.iter t es _)=>match E.P.underlying t with
   |some (.map kt et)=>if es.isEmpty=true then k (.aV [.pv (.bool false)]) f m else uF es.length fun i=>(es[i]?).bind fun e=>ij E kt e.1 fun a=>ij E et e.2 fun b=>k (.aV [.pv (.bool true),.pv a,.pv b]) f (aB m id (.iter t (es.eraseIdx i) (some (a,b))))
   |_=>none
  |_=>none
 |_=>none
def Qr(x:V)(m:Mem)(k:V→Mem→Option R):Option R:=
 match x with
 |.it id=>match m id with
  |some (.iter t es (some (a,b)))=>k (.aV [.pv a,.pv b]) (aB m id (.iter t es none))
  |_=>none
 |_=>none
def Qs:Op→Bool
 |.range .. =>true
 |.next .. =>true
 |.entry .. =>true
 |_=>false
def yq(g:FuncId):FuncId:=bif Nat.blt g Gp then g else g-Gp
def BA(g:FuncId)(caps args:List V):List V:=bif Nat.blt g Gp then args++caps else caps++args
noncomputable def cj(draw:Bool)(site:Nat)(o:Oper)(f:Fr)(m:Mem)(k:V→Fr→Mem→bx→Option R):Option R:=
 match o.op with
 |.move x=>k (bF E f x) f m []
 |.assign x=>match bF E f x with
  |.gy=>match E.P.underlying o.type with
   |some (.slice e)=>if 0<aW E.P e then fresh draw site (.arr (aW E.P e) e []) f m fun f m ft=>k (.os site) f m ft else none
   |_=>k .gy f m []
  |v=>k v f m []
 |.pick c a b=>match bF E f c with
  |.pv (.bool t)=>if t then k (bF E f a) f m []else k (bF E f b) f m []
  |_=>none
 |.alloc t=>match da E t with
  |some cs=>bif E.DR site then(match E.P.underlying t,rF vi cs with
   |some (.array n e),some ps=>if aJ E.P e=true∧n*aW E.P e=aW E.P t∧0<aW E.P e∧n≤16777216 then fresh draw site (.arr (aW E.P e) e (pX (aW E.P e) n (.agg ps))) f m fun f m ft=>k (.oe site 0 0) f m ft else none
   |_,_=>none)
   else if !draw&&ahd E t then Ad E site [t] 0 (yp cs.length cs f) m fun F m=>fresh false site (.box ((List.range cs.length).map F)) (yM cs.length F) m fun f m ft=>k (.op site 0) f m ft
   else fresh draw site (.box cs) f m fun f m ft=>k (.op site 0) f m ft
  |none=>none
 |.box t x=>match toCells (aW E.P t) (bF E f x)with
  |some cs=>if !draw&&cs.any Xb then(match Gy E.P 8 t with
   |some ts=>if ts.length=cs.length then Ad E site ts 0 (yp cs.length cs f) m fun F m=>fresh false site (.box ((List.range cs.length).map F)) (yM cs.length F) m fun f m ft=>k (.op site 0) f m ft else none
   |none=>none)else fresh draw site (.box cs) f m fun f m ft=>k (.op site 0) f m ft
  |none=>none
 |.build t parts=>DX E t (parts.toList.map fun(i,x)=>(i,bF E f x)) fun v=>k v f m []
 |.buildSlice t len parts=>match E.P.underlying t with
  |some (.slice e)=>if Ss E e then(match Gw 0 (parts.toList.map fun(i,x)=>(i,bF E f x))with
   |some cs=>if parts.size=len∧aW E.P e=1∧len≤16777216∧(da E e).isSome=true then fresh draw site (.box cs) f m fun f m ft=>k (.os site) f m ft else none
   |none=>none)
   else if E.DR (site+1000000000000000000000000000000)then(match fB dh (aW E.P e) (aJ E.P e) 0 (parts.toList.map fun(i,x)=>(i,bF E f x))with
   |some (es,_)=>if es.length=len∧0<aW E.P e∧len*aW E.P e≤16777216∧(da E e).isSome=true then k (.pv (.rs (aW E.P e) es)) f m []else none
   |none=>none)
   else match fB (if draw then dh else m) (aW E.P e) (aJ E.P e) 0 (parts.toList.map fun(i,x)=>(i,bF E f x))with
   |some (es,m1)=>if es.length=len∧0<aW E.P e∧len*aW E.P e≤16777216∧(da E e).isSome=true then fresh draw site (.arr (aW E.P e) e es) f (if draw then m else m1) fun f m ft=>k (.os site) f m ft else none
   |none=>none
  |_=>none
 |.load t a=>si E (E.DR site) t (bF E f a) m fun v ft=>k v f m ft
 |.store t a x=>vj E draw t (bF E f a) (bF E f x) m fun m ft=>k .top f m ft
 |.nilCheck x=>match bF E f x with
  |.pv (.rp cs)=>k (.pv (.rp cs)) f m []
  |.op id off=>k (.op id off) f m []
  |.oe id i off=>k (.oe id i off) f m []
  |.Cv id i off s j off2=>k (.Cv id i off s j off2) f m []
  |.fn g cs=>k (.fn g cs) f m []
  |.pv (.fn g cs)=>k (.pv (.fn g cs)) f m []
  |_=>none
 |.binOp op t x y _=>match bF E f x,bF E f y with
  |.pv (.rs _ es),.gy=>if draw then none else Qo E op t es fun b=>k (.pv (.bool b)) f m [(true,0)]
  |a,b=>Nq E op t y a b fun p=>k (.pv p) f m []
 |.unOp op _ x=>xun op (bF E f x) fun p=>k (.pv p) f m []
 |.convert s d x=>DV E s d (bF E f x) m fun p ft=>k (.pv p) f m ft
 |.makeFunc (.func g) first caps=>bif Nat.blt g Gp then(if first.isEmpty then k (.fn g (caps.toList.map (bF E f))) f m []else if caps.isEmpty then k (.fn (g+Gp) (first.toList.map (bF E f))) f m []else none)else none
 |.makeMap t hint=>if Le E f hint=true then match E.P.underlying t with
  |some (.map kt et)=>if(uD E.P kt).isSome then(if E.DR site then(match E.P.underlying et with
   |some (.slice e)=>fresh draw site (.fH kt e []) f m fun f m ft=>k (.om site) f m ft
   |_=>none)
   else fresh draw site (.map kt []) f m fun f m ft=>k (.om site) f m ft)else none
  |_=>none
  else none
 |.makeSlice t l c=>sU E draw site t (bF E f l) (bF E f c) f m k
 |.slice t x lo hi mx=>xc E t (bF E f x) (lo.map (bF E f)) (hi.map (bF E f)) (mx.map (bF E f)) m fun v ft=>k v f m ft
 |.fieldAddr s x j=>kO E s (bF E f x) j fun v=>k v f m []
 |.field s x j=>Gv E s (bF E f x) j fun v=>k v f m []
 |.indexAddr t x ix=>du E t (bF E f x) (bF E f ix) m fun v ft=>k v f m ft
 |.index t x ix=>DW E t (bF E f x) (bF E f ix) fun v=>k v f m []
 |.lookup t x ix ok=>if E.DR site&& !ok then Ns E site t (bF E f x) (bF E f ix) m fun v m ft=>k v f m ft else xd E t (bF E f x) (bF E f ix) ok m fun v ft=>k v f m ft
 |.mapUpdate t x key v=>pY E draw t (bF E f x) (bF E f key) (bF E f v) m fun m ft=>k .top f m ft
 |.insert t x key v=>pY E draw t (bF E f x) (bF E f key) (bF E f v) m fun m ft=>k .top f m ft
 |.range t x=>if draw then none else Qq E site t (bF E f x) f m fun v f m=>k v f m [(true,0)]
 |.next x s=>if draw||s then none else Xc E (bF E f x) f m fun v f m=>k v f m [(true,0)]
 |.entry x=>if draw then none else Qr (bF E f x) m fun v m=>k v f m [(true,0)]
 |.extract t i=>match bF E f t with
  |.aV vs=>match vs[i]? with
   |some v=>k v f m []
   |none=>none
  |_=>none
 |.call c=>match c.callee,c.args.toList.map (bF E f)with
  |.builtin .len,[x]=>match c.argTypes.toList with
   |[t]=>Nr E t x m fun v ft=>k v f m ft
   |_=>none
  |.builtin .append,[s,x]=>match c.argTypes.toList with
   |[t,t']=>CB E draw site t t' s x f m fun v f m=>k v f m [(true,0)]
   |_=>none
  |.builtin .copy,[d,x]=>match c.argTypes.toList with
   |t::_=>Nt E t d x m fun v m ft=>k v f m ft
   |_=>none
  |.builtin .clear,[x]=>match c.argTypes.toList with
   |t::_=>Gx E t x m fun v m ft=>k v f m ft
   |_=>none
  |.builtin .min,[a,b]=>Nu a b fun p=>k (.pv p) f m []
  |.builtin .max,[a,b]=>EP a b fun p=>k (.pv p) f m []
  |.builtin .max,[a,b,c,d]=>Nv a b c d fun p=>k (.pv p) f m []
  |.value (.func g),args=>yo E draw site g args f m k
  |.value (.tmp t),args=>match bF E f (.tmp t)with
   |.fn g caps=>yo E draw site (yq g) (BA g caps args) f m k
   |.pv (.fn g caps)=>yo E draw site (yq g) (BA g (caps.map .pv) args) f m k
   |.yl id=>if draw then none else E.yl R E.fn.ntmps site id args f m fun v f m=>k v f m [(true,0)]
   |_=>none
  |_,_=>none
 |_=>none
noncomputable def M7(draw:Bool)(site:Nat)(o:Oper)(f:Fr)(m:Mem)(k:V→Fr→Mem→bx→Option R):Option R:=
 match(bif draw then none else bif E.DR site then Bz E site o f m else none)with
 |some sp=>xsp E site sp f m k
 |none=>cj E draw site o f m k
theorem Gz{R:Type}{E:Env}(site:Nat)(o:Oper)(f:Fr)(m:Mem)(k:V→Fr→Mem→bx→Option R):M7 E true site o f m k=cj E true site o f m k:=rfl
def fI(o:Oper):Bool:=
 match o.op with
 |.move _|.assign _|.pick .. |.load .. |.nilCheck _|.binOp .. |.unOp .. |.convert .. |.slice .. |.fieldAddr .. |.field .. |.indexAddr .. |.index .. |.lookup .. |.extract .. |.build .. =>true
 |.call {callee:=.builtin .len,.. }|.call {callee:=.builtin .min,.. }|.call {callee:=.builtin .max,.. }=>true
 |.call {callee:=.value _,.. }=>true
 |_=>false
def CC:bx→Bool
 |[]=>true
 |(w,_)::r=> !w&&CC r
abbrev Log:=List (Nat×Bool×Nat)
def BB(o:Oper)(j:Nat):Bool:=o.after.toList.any fun e=>Region.binds .any e&&Nat.beq e.on j
mutual
def V.ids:V→List Nat
 |.agg cs=>Nx cs
 |.aV cs=>Nx cs
 |.fn _ cs=>Nx cs
 |.os j=>[j]
 |.fX j _ _=>[j]
 |.oe j _ _=>[j]
 |.om j=>[j]
 |.yK j _ _=>[j]
 |.Cv j _ _ _ _ _=>[j]
 |.op j _=>[j]
 |.yl j=>[j]
 |.it j=>[j]
 |_=>[]
def Nx:List V→List Nat
 |[]=>[]
 |v::r=>v.ids++Nx r
end
def GA:Option bI→List Nat
 |some (.box cs)=>Nx cs
 |_=>[]
def Ae(n:Nat):Nat:=n+2037035976334486086268445688409378161051468393665936250636140449354381299763336706183397376
def Lf(m m':Mem):bx→List Nat
 |[]=>[]
 |x::r=>GA (m x.2)++GA (m' x.2)++Lf m m' r
def F4(ops:Array Oper)(o:Oper)(f:Fr)(m m':Mem)(v:V)(ft:bx):List Nat:=Nx ((o.looksAt ops).map f)++v.ids++Lf m m' ft
def cK(E:Env)(d:Option Nat):Nat:=match d with|some d=>E.fid*4096+d|none=>E.fid*4096+4095
def isApp(E:Env)(o:Oper):Bool:=E.DR (cK E o.dst)||match o.op with|.call {callee:=.builtin .append,.. }=>true|_=>false
def xf(E:Env)(f:Fr)(m:Mem)(o:Oper):Option (Nat×bx):=
 match o.op with
 |.call c=>match c.callee,c.args.toList.map (bF E f),c.argTypes.toList with
  |.builtin .append,[.os id,x],[t,_]=>match E.P.underlying t with
   |some (.slice e)=>match fM m (aW E.P e) x with
    |some (_,rd)=>if x.has id then none else some (id,rd)
    |none=>none
   |_=>none
  |_,_,_=>none
 |_=>none
def Lg(E:Env)(f:Fr)(m:Mem)(o:Oper):Option (Kl×bx):=
 match(bif E.DR (cK E o.dst)then Bz E (cK E o.dst) o f m else none)with
 |some sp=>some (sp.info (cK E o.dst))
 |none=>match xf E f m o with
  |some (id,rd)=>some ([(true,id)],(true,id)::rd)
  |none=>none
def reach(ops:Array Oper):Nat→Oper→Nat→Bool
 |0,o,j=>BB o j
 |n+1,o,j=>BB o j||o.after.toList.any fun e=>Region.binds .any e&&match ops[e.on]? with|some p=>reach ops n p j|none=>false
def St(ops:Array Oper)(o:Oper)(w:Bool)(id:Nat):Log→Bool
 |[]=>true
 |(j,w',uv)::r=>(!(Nat.beq id uv)||(!w&& !w')||reach ops 4 o j)&&St ops o w id r
def DZ(ops:Array Oper)(o:Oper)(lg:Log):bx→Bool
 |[]=>true
 |(w,id)::r=>St ops o w id lg&&DZ ops o lg r
def F5(ops:Array Oper)(o:Oper)(id:Nat):Log→Bool
 |[]=>true
 |(j,_,n)::r=>(!(Nat.beq n (Ae id))||reach ops 4 o j)&&F5 ops o id r
def Af(ops:Array Oper):List (Nat×Oper)→Oper→Bool
 |[],_=>true
 |(j,p)::r,o=>(p.apart ops o||reach ops 4 o j)&&Af ops r o
def sn(ops:Array Oper):List (Nat×Oper)→List (Nat×Oper)→Bool
 |_,[]=>true
 |done,(i,o)::r=>o.after.toList.all (fun e=> !(Region.binds .any e)||Nat.blt e.on i)&&Af ops done o&&sn ops ((i,o)::done) r
def guardOf(o:Oper)(A:List (Nat×Bool)):Option (Nat×Bool):=
 match o.guard with
 |none=>none
 |some g=>if A.elem g then none else some g
def ER(A:List (Nat×Bool)):List (Nat×Oper)→List (Nat×Oper)×List (Nat×Oper)
 |[]=>([],[])
 |x::r=>match guardOf x.2 A with
  |some _=>let(a,b):=ER A r;(x::a,b)
  |none=>([],x::r)
def b8(f:Fr):List (Nat×Oper)→Fr
 |[]=>f
 |x::r=>b8 (iO f x.2.dst .top) r
def yN(g:Nat×Bool):List Nat→List (Nat×Oper)→Bool
 |_,[]=>true
 |done,x::r=>(match x.2.guard with
  |some h=>(Nat.beq h.1 g.1&&(h.2==g.2))||done.elem h.1
  |none=>false)&&yN g (x.1::done) r
def blind(ops:Array Oper)(body:List (Nat×Oper))(o:Oper):Bool:=body.all fun y=>match y.2.dst with
  |some d=> !((o.looksAt ops).elem d)
  |none=>true
def Ny:Bool→Bool→Bool
 |true,b=>b
 |false,b=> !b
def jA(f:Fr):List (Nat×Oper)→Fr
 |[]=>f
 |x::r=>jA (iO f x.2.dst (.aV [])) r
def A0:V→Option Bool
 |.pv (.bool b)=>some b
 |_=>none
end
def yr(E:Env)(o:Oper):Bool:=match o.dst with|some d=>Nat.blt d E.fn.ntmps|none=>true
def Lh(E:Env)(g:FuncId):Bool:=match E.P.funcs[g]? with|some fn=>fn.resultTypes.toList.all (xe E)|none=>false
def acA(E:Env)(f:Fr)(body:List (Nat×Oper))(o:Oper):Bool:=
 fI o&&match o.op with
 |.call {callee:=.value (.func g),.. }=>(E.ctx g).isSome&&Lh E g
 |.call {callee:=.value (.tmp t),.. }=>match(match body.find? (fun x=>x.2.dst==some t)with
  |some (_,p)=>(match p.op with
   |.move y=>bF E f y
   |.assign y=>bF E f y
   |_=>.top)
  |none=>bF E f (.tmp t))with
  |.fn g _=>(E.ctx (yq g)).isSome&&Lh E (yq g)
  |.pv (.fn g _)=>(E.ctx (yq g)).isSome&&Lh E (yq g)
  |.yl _=>false
  |_=>true
 |_=>true
noncomputable def cL(E:Env)(ops:Array Oper)(mode:Nat):(fuel:Nat)→(R:Type)→List (Nat×Bool)→List (Nat×Oper)→Fr→Mem→Log→(Fr→Mem→Option R)→Option R
 |0,_,_,_,_,_,_,_=>none
 |_+1,_,_,[],f,m,_,k=>k f m
 |fuel+1,R,A,(i,o)::rest,f,m,lg,k=>
  match guardOf o A with
  |none=>
   if yr E o then
    match(bif Nat.beq mode 2 then Lg E f m o else none)with
    |some (kl,ft)=>
     if DZ ops o lg ft&&kl.all (fun x=>F5 ops o x.2 lg)&&rest.all (fun x=>reach ops 4 x.2 i)then M7 E false (cK E o.dst) o f m fun v f1 m1 _=>cL E ops mode fuel R A rest (iO f1 o.dst v) m1 (ft.map (fun x=>(i,x))++lg) k
     else none
    |none=>M7 E (Nat.beq mode 1||Nat.beq mode 2) (cK E o.dst) o f m fun v f1 m1 ft=>
      if Nat.beq mode 2 then(if DZ ops o lg ft then cL E ops mode fuel R A rest (iO f1 o.dst v) m1 ((bif ops.toList.any (isApp E)then(F4 ops o f m m1 v ft).map (fun n=>(i,false,Ae n))else[])++(ft.map (fun x=>(i,x))++lg)) k else none)
      else if Nat.beq mode 0 then cL E ops mode fuel R A rest (iO f1 o.dst v) m1 lg k
      else if CC ft then cL E ops mode fuel R A rest (iO f1 o.dst v) m1 lg k
      else none
   else none
  |some (j,FP)=>
   match((ops[j]?).bind (·.dst))with
   |some tj=>match bF E f (.tmp tj)with
    |.pv (.bool b)=>
     match ER A ((i,o)::rest)with
     |(body,Nz)=>
     if Nat.beq mode 0&& !(body.all fun x=>acA E f body x.2)then
      (if(body.all fun x=>yr E x.2)&&yN (j,FP) [] body&&((i,o)::rest).all (fun x=> !(x.2.dst==some tj))then
       bif Ny FP b then cL E ops mode fuel R ((j,FP)::A) ((i,o)::rest) (gH f tj (.pv (.bool FP))) m lg k
       else cL E ops mode fuel R A Nz (jA (gH f tj (.pv (.bool !FP))) body) m lg k
      else none)
     else match Nz with
     |(_,p)::oq=>
      match p.op with
      |.pick (.tmp c) x y=>
       if Nat.beq c tj&&(guardOf p A).isNone&&body.all (fun x=>fI x.2&&yr E x.2&& !(x.2.dst==some tj))&&yN (j,FP) [] body&&oq.all (fun x=>blind ops body x.2)&&yr E p&& !(Nat.beq mode 2)then
        (match FP with
         |true=>bif b then cL E ops (bif Nat.beq mode 0 then 3 else mode) fuel Bool ((j,FP)::A) body f m lg (fun f _=>A0 (bF E f x))else A0 (bF E (b8 f body) y)
         |false=>bif b then A0 (bF E (b8 f body) x)else cL E ops (bif Nat.beq mode 0 then 3 else mode) fuel Bool ((j,FP)::A) body f m lg (fun f _=>A0 (bF E f y))).bind fun r=>
        cL E ops mode fuel R A oq (iO (b8 f body) p.dst (.pv (.bool r))) m lg k
       else none
      |_=>none
     |[]=>none
    |_=>none
   |none=>none
inductive Ex where
 |normal
 |exit (id:Nat)
 |ret
def NA{R:Type}(body:Fr→Mem→(Fr→Mem→Option R)→Option R):Nat→Fr→Mem→Option R
 |0,_,_=>none
 |n+1,f,m=>body f m (NA body n)
def Ag:Code→Nat
 |.region id _ _=>id
 |.seq a _=>Ag a
 |.cond _ a _=>Ag a
 |.block _ b=>Ag b
 |.loop b=>Ag b
 |.scope b=>Ag b
 |_=>0
def Su:List Sh→Type→Type
 |[],T=>T
 |.raw::r,T=>PV×Su r T
 |.int _::r,T=>Int×Su r T
 |.bool::r,T=>Bool×Su r T
 |.str::r,T=>Bytes×Su r T
 |.rs _::r,T=>List PV×Su r T
 |.rp _::r,T=>PV×Su r T
 |.fs _::r,T=>List PV×Su r T
 |.row _ _::r,T=>Int×Su r T
 |.own _::r,T=>Su r T
def M8:List (Nat×AZ)→Type
 |[]=>Unit
 |(_,.box cs)::r=>Su cs (M8 r)
 |(_,.arr _ _)::r=>List PV×M8 r
 |(_,.rE _ _)::r=>List PV×M8 r
 |(_,.map _)::r=>List (PV×PV)×M8 r
 |(_,.nest _ _)::r=>List PV×M8 r
 |(_,.fH _ _)::r=>List (PV×PV)×M8 r
 |(_,.loop)::r=>M8 r
 |(_,.busy)::r=>M8 r
 |(_,.iter _)::r=>List (PV×PV)×M8 r
def JF.kJ(T:JF):List Sh:=T.bV.map Prod.snd
abbrev JF.ty(T:JF):Type:=Su T.kJ (M8 T.Bw)
mutual
def V.same:V→V→Bool
 |.op i o,.op j p=>Nat.beq i j&&Nat.beq o p
 |.oe i a o,.oe j b p=>Nat.beq i j&&Nat.beq a b&&Nat.beq o p
 |.os i,.os j=>Nat.beq i j
 |.om i,.om j=>Nat.beq i j
 |.yl i,.yl j=>Nat.beq i j
 |.it i,.it j=>Nat.beq i j
 |.gy,.gy=>true
 |.pv .oh,.pv .oh=>true
 |.pv .nW,.pv .nW=>true
 |.pv (.int q x),.pv (.int q' y)=>decide (q=q')&&decide (x=y)
 |.fn f cs,.fn g ds=>Nat.beq f g&&ES cs ds
 |_,_=>false
def ES:List V→List V→Bool
 |[],[]=>true
 |a::as,b::bs=>a.same b&&ES as bs
 |_,_=>false
end
section
variable {R:Type}
def kK{T:Type}:(kJ:List Sh)→List V→T→(Su kJ T→Option R)→Option R
 |[],[],t,k=>k t
 |.int q::kJ,.pv (.int q' n)::vs,t,k=>if q'=q then kK kJ vs t (fun r=>k (n,r))else none
 |.raw::kJ,.pv p::vs,t,k=>kK kJ vs t (fun r=>k (p,r))
 |.bool::kJ,.pv (.bool b)::vs,t,k=>kK kJ vs t (fun r=>k (b,r))
 |.str::kJ,.pv (.str s)::vs,t,k=>kK kJ vs t (fun r=>k (s,r))
 |.rs sz::kJ,.pv (.rs I3 es)::vs,t,k=>if I3=sz then kK kJ vs t (fun r=>k (es,r))else none
 |.rp n::kJ,.pv (.rp cs)::vs,t,k=>if cs.length=n then kK kJ vs t (fun r=>k (.agg cs,r))else none
 |.fs s::kJ,.pv p::vs,t,k=>(rdL s p).bind fun ls=>kK kJ vs t (fun r=>k (ls,r))
 |.row id off::kJ,.yK uv i xg::vs,t,k=>if uv=id∧xg=off then kK kJ vs t (fun r=>k ((i:Int),r))else none
 |.own v::kJ,u::vs,t,k=>if v.same u then kK kJ vs t k else none
 |_,_,_,_=>none
def wj(m:Mem):(bs:List (Nat×AZ))→(M8 bs→Option R)→Option R
 |[],k=>k ()
 |(id,.box cs)::r,k=>match m id with
  |some (.box vs)=>wj m r fun t=>kK (T:=M8 r) cs vs t k
  |_=>none
 |(id,.arr sz et)::r,k=>match m id with
  |some (.arr I3 I4 es)=>if I3=sz∧I4=et then wj m r fun t=>k (es,t)else none
  |_=>none
 |(id,.rE sz et)::r,k=>match m id with
  |some (.rE I3 I4 es)=>if I3=sz∧I4=et then wj m r fun t=>k (es,t)else none
  |_=>none
 |(id,.map kt)::r,k=>match m id with
  |some (.map yH es)=>if yH=kt then wj m r fun t=>k (es,t)else none
  |_=>none
 |(id,.nest sz et)::r,k=>match m id with
  |some (.nest I3 I4 es)=>if I3=sz∧I4=et then wj m r fun t=>k (es,t)else none
  |_=>none
 |(id,.fH kt e)::r,k=>match m id with
  |some (.fH yH e' es)=>if yH=kt∧e'=e then wj m r fun t=>k (es,t)else none
  |_=>none
 |(id,.loop)::r,k=>match m id with
  |some (.loop .ready)=>wj m r k
  |_=>none
 |(id,.busy)::r,k=>match m id with
  |some (.loop .busy)=>wj m r k
  |_=>none
 |(id,.iter t)::r,k=>match m id with
  |some (.iter t' es none)=>if t'=t then wj m r fun u=>k (es,u)else none
  |_=>none
def Sh.within(M:List Nat):Sh→Bool
 |.own v=>v.within M
 |.row id _=>M.elem id
 |_=>true
def AZ.within(M:List Nat):AZ→Bool
 |.box cs=>cs.all (·.within M)
 |_=>true
def JF.ok(T:JF):Bool:=T.bV.all (fun x=>x.2.within (T.Bw.map (·.1)))&&T.Bw.all (fun x=>x.2.within (T.Bw.map (·.1)))
def GB:List Sh→List V→Bool
 |[],[]=>true
 |.raw::kJ,.pv _::vs=>GB kJ vs
 |.int q::kJ,.pv (.int q' _)::vs=>decide (q'=q)&&GB kJ vs
 |.bool::kJ,.pv (.bool _)::vs=>GB kJ vs
 |.str::kJ,.pv (.str _)::vs=>GB kJ vs
 |.rs sz::kJ,.pv (.rs I3 _)::vs=>Nat.beq I3 sz&&GB kJ vs
 |.rp n::kJ,.pv (.rp cs)::vs=>Nat.beq cs.length n&&GB kJ vs
 |.fs s::kJ,.pv p::vs=>(rdL s p).isSome&&GB kJ vs
 |.row id off::kJ,.yK uv _ xg::vs=>Nat.beq uv id&&Nat.beq xg off&&GB kJ vs
 |.own v::kJ,u::vs=>v.same u&&GB kJ vs
 |_,_=>false
def Jd(m:Mem):List (Nat×AZ)→Bool
 |[]=>true
 |(id,.box cs)::r=>(match m id with|some (.box vs)=>GB cs vs|_=>false)&&Jd m r
 |(id,.arr sz _)::r=>(match m id with|some (.arr I3 _ _)=>Nat.beq I3 sz|_=>false)&&Jd m r
 |(id,.rE sz _)::r=>(match m id with|some (.rE I3 _ _)=>Nat.beq I3 sz|_=>false)&&Jd m r
 |(id,.map _)::r=>(match m id with|some (.map _ _)=>true|_=>false)&&Jd m r
 |(id,.nest sz _)::r=>(match m id with|some (.nest I3 _ _)=>Nat.beq I3 sz|_=>false)&&Jd m r
 |(id,.fH _ _)::r=>(match m id with|some (.fH _ _ _)=>true|_=>false)&&Jd m r
 |(id,.loop)::r=>(match m id with|some (.loop .ready)=>true|_=>false)&&Jd m r
 |(id,.busy)::r=>(match m id with|some (.loop .busy)=>true|_=>false)&&Jd m r
 |(id,.iter _)::r=>(match m id with|some (.iter _ _ none)=>true|_=>false)&&Jd m r
def fits(f:Fr)(m:Mem)(T:JF):Bool:=Jd m T.Bw&&GB T.kJ (T.bV.map fun(x:Nat×Sh)=>f x.1)
def enc(T:JF)(f:Fr)(m:Mem)(k:T.ty→Option R):Option R:=if T.ok then wj m T.Bw fun t=>kK (T:=M8 T.Bw) T.kJ (T.bV.map fun(x:Nat×Sh)=>f x.1) t k else none
end
def uw{T:Type}:(kJ:List Sh)→Su kJ T→List V×T
 |[],t=>([],t)
 |.int q::kJ,x=>let r:=uw kJ x.2;(.pv (.int q x.1)::r.1,r.2)
 |.raw::kJ,x=>let r:=uw kJ x.2;(.pv x.1::r.1,r.2)
 |.bool::kJ,x=>let r:=uw kJ x.2;(.pv (.bool x.1)::r.1,r.2)
 |.str::kJ,x=>let r:=uw kJ x.2;(.pv (.str x.1)::r.1,r.2)
 |.rs sz::kJ,x=>let r:=uw kJ x.2;(.pv (.rs sz x.1)::r.1,r.2)
 |.rp n::kJ,x=>let r:=uw kJ x.2;(.pv (.rp (aM n x.1))::r.1,r.2)
 |.fs s::kJ,x=>let r:=uw kJ x.2;(.pv (Lb s ((List.range s.n).map fun j=>x.1.getD j .bad)).1::r.1,r.2)
 |.row id off::kJ,x=>let r:=uw kJ x.2;(.yK id x.1.toNat off::r.1,r.2)
 |.own v::kJ,x=>let r:=uw (T:=T) kJ x;(v::r.1,r.2)
def iw:(bs:List (Nat×AZ))→M8 bs→List (Nat×Option bI)
 |[],_=>[]
 |(id,.box cs)::r,x=>let y:=uw (T:=M8 r) cs x;(id,some (.box y.1))::iw r y.2
 |(id,.arr sz et)::r,x=>(id,some (.arr sz et x.1))::iw r x.2
 |(id,.rE sz et)::r,x=>(id,some (.rE sz et x.1))::iw r x.2
 |(id,.map kt)::r,x=>(id,some (.map kt x.1))::iw r x.2
 |(id,.nest sz et)::r,x=>(id,some (.nest sz et x.1))::iw r x.2
 |(id,.fH kt e)::r,x=>(id,some (.fH kt e x.1))::iw r x.2
 |(id,.loop)::r,x=>(id,some (.loop .ready))::iw (r:List (Nat×AZ)) x
 |(id,.busy)::r,x=>(id,some (.loop .busy))::iw (r:List (Nat×AZ)) x
 |(id,.iter t)::r,x=>(id,some (.iter t x.1 none))::iw r x.2
def sV:List (Nat×Sh)→List V→List (Nat×V)
 |(t,_)::r,v::vs=>(t,v)::sV r vs
 |_,_=>[]
def Qt(T:JF)(x:T.ty):Fr:=Qn (sV T.bV (uw (T:=M8 T.Bw) T.kJ x).1)
def GC(T:JF)(x:T.ty):Mem:=Gn (iw T.Bw (uw (T:=M8 T.Bw) T.kJ x).2)
def ET{A:Type}:List (Nat×Nat)→Fr→Mem→(Fr→Mem→A)→A
 |[],f,m,k=>k f m
 |(t,sz)::r,f,m,k=>match f t with
  |.os id=>match m id with
   |some (.arr s et es)=>ET r (gH f t (.pv (.rs s es))) (aB m id (.rE s et es)) k
   |some (.rE s _ es)=>ET r (gH f t (.pv (.rs s es))) m k
   |_=>ET r f m k
  |.gy=>ET r (gH f t (.pv (.rs sz []))) m k
  |_=>ET r f m k
def A1{A:Type}:List (Nat×Nat×Nat)→Mem→(Mem→A)→A
 |[],m,k=>k m
 |(id,j,sz)::r,m,k=>match m id with
  |some (.box cs)=>match cs[j]? with
   |some .gy=>A1 r (aB m id (.box (cs.set j (.pv (.rs sz []))))) k
   |some (.os d)=>match m d with
    |some (.arr s et es)=>if Nat.beq d id then A1 r m k else A1 r (aB (aB m d (.rE s et es)) id (.box (cs.set j (.pv (.rs s es))))) k
    |some (.rE s _ es)=>A1 r (aB m id (.box (cs.set j (.pv (.rs s es))))) k
    |_=>A1 r m k
   |_=>A1 r m k
  |_=>A1 r m k
def EU{A:Type}(P:Program):List (Nat×Nat×Nat×TypeId)→Mem→(Mem→A)→A
 |[],m,k=>k m
 |(id,j,Xd,et)::r,m,k=>match m id with
  |some (.box cs)=>match cs[j]? with
   |some .gy=>match m Xd with
    |none=>if 0<aW P et then EU P r (aB (aB m Xd (.arr (aW P et) et [])) id (.box (cs.set j (.os Xd)))) k else EU P r m k
    |some _=>EU P r m k
   |_=>EU P r m k
  |_=>EU P r m k
def NB{A:Type}:List Nat→Mem→(Mem→A)→A
 |[],m,k=>k m
 |id::r,m,k=>match m id with
  |some (.arr s et es)=>NB r (aB m id (.nest s et es)) k
  |_=>NB r m k
def EV{A:Type}:List (Nat×Nat)→Fr→Mem→(Fr→Mem→A)→A
 |[],f,m,k=>k f m
 |(id,j)::r,f,m,k=>match m id with
  |some (.box cs)=>match cs[j]? with
   |some (.fX a 0 len)=>match m a with
    |some (.arr s et es)=>if Nat.beq a id then EV r f m k else EV r (eU a f) (aB (aB (br (bH a m) a) a (.arr s et (es.take len))) id (.box ((cs.map (sS a)).set j (.os a)))) k
    |_=>EV r f m k
   |_=>EV r f m k
  |_=>EV r f m k
def JI{A:Type}(P:Program)(T:JF)(f:Fr)(m:Mem)(k:Fr→Mem→A):A:=EV T.ct f m fun f m=>EU P T.bo m fun m=>A1 T.bz m fun m=>NB T.nz m fun m=>ET T.fz f m k
variable{R:Type}
def Ex.NC(k1:Fr→Mem→Option R)(k:Ex→Fr→Mem→Option R):Ex→Fr→Mem→Option R
 |.normal,f,m=>k1 f m
 |e,f,m=>k e f m
def Ex.Xe(id:Nat)(k:Ex→Fr→Mem→Option R):Ex→Fr→Mem→Option R
 |.exit j,f,m=>if j=id then k .normal f m else k (.exit j) f m
 |e,f,m=>k e f m
def Ex.jmp:Ex→Option Jmp
 |.normal=>none
 |.exit id=>some (.exit id)
 |.ret=>some .ret
def Jmp.ex:Jmp→Ex
 |.ret=>.ret
 |.exit id=>.exit id
def Sv(n:Nat)(g f:Fr):Fr:=fun t=>bif Nat.blt t n then g t else f (t-n)
def GD:List Nat→List V→Fr→Fr
 |p::ps,v::vs,f=>GD ps vs (gH f p v)
 |_,_,f=>f
def roundOf(as b:Fr→Mem→(Ex→Fr→Mem→Option R)→Option R)(lid n:Nat)(ps:List Nat)(nt:Nat)(args:List V)(F:Fr)(m:Mem)(k:V→Fr→Mem→Option R):Option R:=
 match m lid with
 |some (.loop .ready)=>if args.length=ps.length then
  as (Sv n (GD ps args (yM nt F)) F) m fun e f m=>match e,m lid with
   |.normal,some (.loop .ready)=>b f (aB m lid (.loop .busy)) fun e f m=>match m lid with
    |some (.loop .busy)=>match e.jmp with
     |none=>k (.pv (.bool true)) (yM n f) (aB m lid (.loop .ready))
     |some j=>k (.pv (.bool false)) (yM n f) (aB m lid (.loop (.done j)))
    |_=>none
   |_,_=>none
  else none
 |_=>none
def ae7:V→Option (FuncId×List V)
 |.fn g caps=>bif Nat.blt g Gp then some (g,caps)else none
 |.pv (.fn g caps)=>bif Nat.blt g Gp then some (g,caps.map .pv)else none
 |_=>none
def ahe(E:Env)(o:Oper):Bool:=match o.op with
 |.call c=>match c.callee with
  |.value (.func g)=>(E.ctx g).isNone&&(E.own g).isNone
  |_=>false
 |_=>false
def ahf(E:Env)(o:Oper):Bool:=match o.op with
 |.call c=>match c.callee with
  |.value (.func g)=>(E.ctx g).isNone&&(E.own g).isSome
  |_=>false
 |_=>false
mutual
def PV.D2:PV→PV→Bool
 |.int k n,.int k' n'=>decide (k=k')&&decide (n=n')
 |.bool b,.bool b'=>b==b'
 |.str s,.str s'=>decide (s=s')
 |.agg cs,.agg ds=>BC cs ds
 |.aV cs,.aV ds=>BC cs ds
 |.oh,.oh=>true
 |.rp cs,.rp ds=>BC cs ds
 |.rs n cs,.rs n' ds=>Nat.beq n n'&&BC cs ds
 |.jr n cs,.jr n' ds=>Nat.beq n n'&&BC cs ds
 |.nW,.nW=>true
 |.rm t ks vs,.rm t' ks' vs'=>Nat.beq t t'&&BC ks ks'&&BC vs vs'
 |.AM,.AM=>true
 |.fn f cs,.fn f' ds=>Nat.beq f f'&&BC cs ds
 |.Uu b,.Uu b'=>b==b'
 |.bad,.bad=>true
 |_,_=>false
def BC:List PV→List PV→Bool
 |[],[]=>true
 |c::cs,d::ds=>c.D2 d&&BC cs ds
 |_,_=>false
end
def Xf(p q:PV):Bool:=p.D2 q
noncomputable def eqK(v u:V)(r:Option R):Option R:=match v,u with
 |.pv p,.pv q=>bif Xf p q then r else none
 |.agg cs,.agg ds=>bif ES cs ds then r else none
 |v,u=>bif v.same u then r else none
noncomputable def Qu{R:Type}:List (Nat×Oper)→Fr→Fr→Option R→Option R
 |[],_,_,r=>r
 |x::l,f0,f1,r=>match x.2.dst with
  |some d=>eqK (f0 d) (f1 d) (Qu l f0 f1 r)
  |none=>Qu l f0 f1 r
def FQ(ops:Array Oper):List (Nat×Oper):=(List.range ops.size).zip ops.toList
def ak3(E:Env)(ops:Array Oper):List Nat:=((FQ ops).filter fun x=>ahe E x.2||E.DR (3000000000000000000000000000000+(E.fid%4096*4096+x.2.dst.getD 0))).map (·.1)
def mR(o:Oper):Bool:=o.guard.isNone&&match o.op with|.move _=>true|.load .. =>true|.nilCheck _=>true|.fieldAddr .. =>true|_=>false
def nY(E:Env)(o:Oper):Bool:=o.guard.isNone&&o.after.isEmpty&& !isApp E o&&yr E o&&match o.op,o.dst with|.alloc t,some _=>(da E t).isSome|_,_=>false
def aej(o:Oper):Bool:=o.guard.isNone&&match o.op with|.call _=>true|_=>false
def GF(ops:Array Oper)(x:Nat×Oper):Bool:=(FQ ops).all fun y=>Nat.beq x.1 y.1||x.2.dst.isNone|| !(y.2.dst==x.2.dst)
def ND(E:Env)(ops:Array Oper)(done:List Nat)(p:Nat)(o:Oper):List (Nat×Oper):=(FQ ops).filter fun x=> !done.elem x.1&& !Nat.beq x.1 p&& !reach ops 8 x.2 p&&(!nY E x.2||reach ops 8 o x.1)
def rG(E:Env)(ops:Array Oper)(done:List Nat):List (Nat×Oper):=(FQ ops).filter fun x=>nY E x.2&& !done.elem x.1
def Qv(ops:Array Oper)(done:List Nat):List (Nat×Oper):=(FQ ops).filter fun x=> !done.elem x.1
def Je(ops:Array Oper)(o:Oper)(l:List (Nat×Oper)):List (Nat×Oper):=l.filter fun x=> !reach ops 8 o x.1
def yO(ops:Array Oper)(o:Oper)(l:List (Nat×Oper)):List Nat:=(l.filter fun x=>reach ops 8 o x.1).map (·.1)
def NF(done:List Nat)(l:List (Nat×Oper))(o:Oper):Bool:=o.after.toList.all fun e=> !Region.binds .any e||done.elem e.on||l.any fun y=>Nat.beq y.1 e.on
def aek(E:Env)(ops:Array Oper)(done:List Nat)(fl:List (Nat×Oper))(p:Nat)(o:Oper)(l:List (Nat×Oper)):Bool:=sn ops [] l&&aej o&& !done.elem p&&NF (yO ops o l++done) [] o&&l.all (fun x=>NF done l x.2&&(!reach ops 8 o x.1||NF (yO ops o l++done) [] x.2))&&fl.all (fun x=> !reach ops 8 x.2 p)&&(Je ops o l).all (fun x=>mR x.2&& !isApp E x.2&&x.2.apart ops o&&GF ops x)&&(rG E ops done).all fun x=>GF ops x
def Sw(E:Env)(ops:Array Oper)(x:Nat×Oper):Bool:=((List.range ops.size).zip ops.toList).any fun y=>isApp E y.2&&(Nat.beq x.1 y.1||reach ops 4 x.2 y.1)
def CD(E:Env)(ops:Array Oper):List (Nat×Oper):=
 bif E.DR (2000000000000000000000000000000+E.fid)then((List.range ops.size).zip ops.toList).filter (fun x=> !Sw E ops x)++((List.range ops.size).zip ops.toList).filter (Sw E ops)
 else(List.range ops.size).zip ops.toList
noncomputable def D3(E:Env)(ops:Array Oper){R:Type}(k:Fr→Mem→Option R):List Nat→List Nat→List (Nat×Oper)→Fr→Fr→Mem→Option R
 |[],done,fl,f0,f,m=>if sn ops [] (Qv ops done)then cL E ops 2 (ops.size+1) R [] (Qv ops done) f m [] fun f1 m1=>Qu fl f0 f1 (k f1 m1)else none
 |p::ps,done,fl,f0,f,m=>match ops[p]? with
  |some o=>if aek E ops done fl p o (ND E ops done p o)then cL E ops 2 (ops.size+1) R [] (ND E ops done p o) f m [] fun f1 m1=>Qu fl f0 f1 (cL E ops 0 3 R [] [(p,o)] f1 m1 [] fun f2 m2=>D3 E ops k ps (p::(yO ops o (ND E ops done p o)++done)) (Je ops o (ND E ops done p o)) f2 (b8 f2 (Je ops o (ND E ops done p o)++rG E ops (p::(yO ops o (ND E ops done p o)++done)))) m2)else none
  |none=>none
noncomputable def fo:(E:Env)→{R:Type}→Code→Fr→Mem→(Ex→Fr→Mem→Option R)→Option R
 |E,_,.skip,f,m,k=>k .normal f m
 |E,R,.region _ ops draw,f,m,k=>
  if draw then
   match ak3 E ops with
   |p::ps=>D3 E ops (fun f m=>k .normal f m) (p::ps) [] [] f (b8 f (rG E ops [])) m
   |[]=>
   (if sn ops [] (CD E ops)then
    (if ops.toList.all (fun o=>fI o&& !ahf E o)then cL E ops 1 (ops.size+1) R [] (CD E ops) f m [] fun f m=>k .normal f m
    else cL E ops 2 (ops.size+1) R [] (CD E ops) f m [] fun f m=>k .normal f m)
   else none)
  else cL E ops 0 (ops.size+ops.size+1) R [] ((List.range ops.size).zip ops.toList) f m [] fun f m=>k .normal f m
 |E,R,.seq a b,f,m,k=>fo E a f m (Ex.NC (fun f m=>fo E b f m k) k)
 |E,R,.cond c a b,f,m,k=>match c,bF E f c with
  |.tmp x,.pv (.bool t)=>if t then fo E a (gH f x (.pv (.bool true))) m k else fo E b (gH f x (.pv (.bool false))) m k
  |_,_=>none
 |E,R,.block id b,f,m,k=>fo E b f m (Ex.Xe id k)
 |E,R,.loop b,f,m,k=>match(E.hint E.fid (Ag b)).find? (fun T=>JI E.P T f m fun f m=>fits f m T)with
  |some T=>JI E.P T f m fun f m=>enc T f m (E.lp.run fun s rec=>fo E b (Qt T s) (GC T s) (Ex.NC (fun f m=>JI E.P T f m fun f m=>enc T f m rec) k))
  |none=>NA (fun f m rec=>fo E b f m (Ex.NC rec k)) E.u f m
 |E,R,.exit id,f,m,k=>k (.exit id) f m
 |E,R,.ret,f,m,k=>k .ret f m
 |E,R,.label _,f,m,k=>k .normal f m
 |E,R,.scope b,f,m,k=>fo E b f m k
 |E,R,.rangeFunc g ps as b,f,m,k=>if E.rdb then none else match ps.toList with
  |p0::_=>fresh true (cK E (some p0)) (.loop .ready) f m fun f m _=>match ae7 (bF E f g)with
   |some (gid,caps)=>E.rng R gid (cK E (some p0)*4096+gid) (fun _ nt site id args F m k=>bif Nat.beq id (cK E (some p0))then
     roundOf (fo {E with fid:=site*4096+E.fid%4096,yl:=Bx,rdb:=true} as) (fo {E with fid:=site*4096+E.fid%4096,yl:=Bx,rdb:=true} b) (cK E (some p0)) E.fn.ntmps ps.toList nt args F m k
     else none)
    (.yl (cK E (some p0))::caps) f m fun _ f m=>match m (cK E (some p0))with
     |some (.loop .ready)=>k .normal (eU (cK E (some p0)) f) (br (bH (cK E (some p0)) m) (cK E (some p0)))
     |some (.loop (.done j))=>k j.ex (eU (cK E (some p0)) f) (br (bH (cK E (some p0)) m) (cK E (some p0)))
     |_=>none
   |_=>none
  |[]=>none
 |_,_,_,_,_,_=>none
def CE(E:Env){R:Type}(f:Fr)(m:Mem):List ResultVar→(List V→Option R)→Option R
 |[],k=>k []
 |.tmp t::rs,k=>CE E f m rs fun vs=>k (bF E f (.tmp t)::vs)
 |.cell a t::rs,k=>si E false t (bF E f (.tmp a)) m fun v _=>CE E f m rs fun vs=>k (v::vs)
def Xg(E:Env)(rs:List ResultVar)(f:Fr)(m:Mem):Option PV:=CE E f m rs fun vs=>match vs with
  |[v]=>lU m fa v
  |vs=>(rF (lU m fa) vs).bind fun ps=>some (.aV ps)
section
variable {R:Type} (E:Env)
def Li(t:TypeId)(p:PV)(k:PV→Option R):Option R:=
 match E.P.underlying t with
 |some (.int _)=>ij E t p k
 |some .bool=>ij E t p k
 |some .string=>ij E t p k
 |some (.slice _)=>ij E t p k
 |some (.map _ _)=>ij E t p k
 |some (.pointer _)=>ij E t p k
 |_=>k p
def so:List TypeId→List PV→(List PV→Option R)→Option R
 |t::ts,p::ps,k=>Li E t p fun q=>so ts ps fun qs=>k (q::qs)
 |_,ps,k=>k ps
def Xh(t:TypeId)(p:PV)(k:PV→Option R):Option R:=
 match E.P.underlying t with
 |some (.struct _)=>(asAgg (aW E.P t) p).bind fun _=>match Gy E.P 8 t with
  |some ts=>so E ts (aM (aW E.P t) p) fun cs=>k (.agg cs)
  |none=>none
 |some (.array _ _)=>(asAgg (aW E.P t) p).bind fun _=>match Gy E.P 8 t with
  |some ts=>so E ts (aM (aW E.P t) p) fun cs=>k (.agg cs)
  |none=>none
 |some (.pointer e)=>lq (aW E.P e) p (k .oh) fun q=>match Gy E.P 8 e with
  |some ts=>so E ts (aM (aW E.P e) q) fun cs=>k (.rp cs)
  |none=>none
 |_=>Li E t p k
def BD:List TypeId→List PV→(List PV→Option R)→Option R
 |t::ts,p::ps,k=>Xh E t p fun q=>BD ts ps fun qs=>k (q::qs)
 |_,ps,k=>k ps
end
def GG(args:List V):Fr:=fun t=>args.getD t .top
noncomputable def F6(E:Env)(args:List V)(f:Fr)(m:Mem)(k:V→Fr→Mem→Option R):Option R:=
 match E.fn.body with
 |some c=>if args.length≤E.fn.ntmps then fo E c (yp E.fn.ntmps args f) m (fun e f m=>match e with
  |.exit _=>none
  |_=>CE E f m E.fn.results.toList fun vs=>match vs with
   |[v]=>k v (yM E.fn.ntmps f) m
   |vs=>k (.aV vs) (yM E.fn.ntmps f) m)else none
 |none=>none
def ae8(E:Env)(f:Fr)(m:Mem):Option PV:=
 match E.fn.resultTypes.toList with
 |[t]=>match E.P.underlying t with
  |some (.slice e)=>CE E f m E.fn.results.toList fun vs=>match vs with
   |[.os id]=>match m id with
    |some (.arr sz et es)=>if sz=aW E.P e∧et=e then some (.rs sz es)else none
    |_=>none
   |[.fX id 0 len]=>match m id with
    |some (.arr sz et es)=>if sz=aW E.P e∧et=e then some (.rs sz (es.take len))else none
    |_=>none
   |_=>none
  |_=>none
 |_=>none
noncomputable def ot(E:Env)(args:List PV):Option PV:=
 match E.fn.body with
 |some c=>if args.length≤E.fn.ntmps then BD E E.fn.params.toList args fun vs=>fo E c (GG (vs.map .pv)) (fun _=>none) (fun e f m=>match e with
  |.exit _=>none
  |_=>ae8 E f m)else none
 |none=>none
noncomputable def fC(E:Env)(args:List PV):Option PV:=
 match E.fn.body with
 |some c=>if args.length≤E.fn.ntmps then BD E E.fn.params.toList args fun vs=>fo E c (GG (vs.map .pv)) (fun _=>none) (fun e f m=>match e with
  |.normal=>Xg E E.fn.results.toList f m
  |.ret=>Xg E E.fn.results.toList f m
  |.exit _=>none)else none
 |none=>none
end Go.Ab
