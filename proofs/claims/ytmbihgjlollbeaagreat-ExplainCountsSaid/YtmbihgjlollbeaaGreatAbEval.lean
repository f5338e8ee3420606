import Derived.Test.YtmbihgjlollbeaaGreatAbDefs
import Derived.Deep.Quiet
set_option linter.unusedVariables false
set_option linter.unusedSimpArgs false
namespace Go.Ab
inductive FS where
 |raw
 |fn (g:FuncId) (caps:List FS)
 |ptr (cells:List FS)
mutual
def Yu:FS→PV→Option (List PV)
 |.raw,p=>some [p]
 |.fn g cs,.fn g' qs=>if g'=g then J7 cs qs else none
 |.ptr cs,.rp qs=>J7 cs qs
 |_,_=>none
def J7:List FS→List PV→Option (List PV)
 |[],[]=>some []
 |s::ss,p::ps=>(Yu s p).bind fun a=>(J7 ss ps).bind fun b=>some (a++b)
 |_,_=>none
end
mutual
def Is:FS→List PV→PV×List PV
 |.raw,[]=>(.bad,[])
 |.raw,p::r=>(p,r)
 |.fn g cs,l=>(.fn g (CE cs l).1,(CE cs l).2)
 |.ptr cs,l=>(.rp (CE cs l).1,(CE cs l).2)
def CE:List FS→List PV→List PV×List PV
 |[],l=>([],l)
 |s::ss,l=>((Is s l).1::(CE ss (Is s l).2).1,(CE ss (Is s l).2).2)
end
mutual
def FS.n:FS→Nat
 |.raw=>1
 |.fn _ cs=>nFs cs
 |.ptr cs=>nFs cs
def nFs:List FS→Nat
 |[]=>0
 |s::ss=>s.n+nFs ss
end
inductive Sh where
 |raw
 |int (q:IntKind)
 |bool
 |str
 |rs (sz:Nat)
 |rp (n:Nat)
 |fs (s:FS)
 |row (id off:Nat)
 |own (v:V)
inductive CF where
 |box (cs:List Sh)
 |arr (sz:Nat) (et:TypeId)
 |qT (sz:Nat) (et:TypeId)
 |map (kt:TypeId)
 |nest (sz:Nat) (et:TypeId)
 |fa (kt e:TypeId)
 |loop
 |busy
 |iter (t:TypeId)
structure G4 where
 bO:List (Nat×Sh)
 zA:List (Nat×CF)
 fz:List (Nat×Nat):=[]
 bz:List (Nat×Nat×Nat):=[]
 bo:List (Nat×Nat×Nat×TypeId):=[]
 nz:List Nat:=[]
 ct:List (Nat×Nat):=[]
structure bB where
 run:{S R:Type}→(S→(S→Option R)→Option R)→S→Option R
 room:Nat→Bool
 uW:∀n,room n=true→(n:Int)≤IntKind.i64.max
def cA{S R:Type}(body:S→(S→Option R)→Option R):Nat→S→Option R
 |0,_=>none
 |n+1,s=>body s (cA body n)
abbrev YL:=(R:Type)→Nat→Nat→Nat→List V→Fr→Mem→(V→Fr→Mem→Option R)→Option R
def BS:YL:=fun _ _ _ _ _ _ _ _=>none
structure Env where
 P:Program
 ctx:FuncId→Option (List PV→Option PV)
 aG:Nat→Option (List PV)
 fid:FuncId
 fn:Func
 lp:bB
 hint:Nat→Nat→List G4
 u:Nat
 own:FuncId→Option (List PV→Option PV)
 inl:(R:Type)→FuncId→Nat→List V→Fr→Mem→(V→Fr→Mem→Option R)→Option R
 rng:(R:Type)→FuncId→Nat→YL→List V→Fr→Mem→(V→Fr→Mem→Option R)→Option R
 yl:YL
 rdb:Bool:=false
 fnr:FuncId→Option FS:=fun _=>none
 DJ:Nat→Bool:=fun _=>false
section
variable {R:Type} (E:Env)
def cD(kt:TypeId)(p:PV)(a:Option R)(b:List PV→List PV→Option R):Option R:=
 match p with
 |.uU=>a
 |.rm wE ks vs=>if wE=kt then b ks vs else none
 |_=>none
def iu(t:TypeId)(p:PV)(k:PV→Option R):Option R:=
 match E.P.underlying t with
 |some (.int q)=>(asInt q p).bind fun n=>k (.int q n)
 |some .bool=>(asBool p).bind fun b=>k (.bool b)
 |some .string=>(bG p).bind fun s=>k (.str s)
 |some (.slice e)=>(aw (aO E.P e) p).bind fun es=>k (.rs (aO E.P e) es)
 |some (.struct _)=>(asAgg (aO E.P t) p).bind fun _=>k (.agg (aC (aO E.P t) p))
 |some (.array _ _)=>(asAgg (aO E.P t) p).bind fun _=>k (.agg (aC (aO E.P t) p))
 |some (.pointer _)=>match p with
  |.q8=>k p
  |.rp _=>k p
  |_=>none
 |some (.map kt _)=>cD kt p (k .uU) fun ks vs=>k (.rm kt ks vs)
 |some (.func _ _ _)=>match p with
  |.Dx=>k .Dx
  |.fn g cs=>k (.fn g cs)
  |_=>none
 |some (.interface _)=>(OW p).bind fun b=>k (.Ys b)
 |_=>none
def Au(t:TypeId)(v:V)(k:V→Option R):Option R:=
 match v with
 |.pv p=>iu E t p fun p=>k (.pv p)
 |.top=>none
 |v=>if(E.P.underlying t).isSome then k v else none
def CG:List TypeId→List PV→(List V→Option R)→Option R
 |[],[],k=>k []
 |t::ts,p::ps,k=>iu E t p fun q=>CG ts ps fun vs=>k (.pv q::vs)
 |_,_,_=>none
def CH(ts:List TypeId)(r:PV)(k:V→Option R):Option R:=
 match ts with
 |[]=>(dq 0 r).bind fun _=>k (.aP [])
 |[t]=>iu E t r fun q=>k (.pv q)
 |ts=>(dq ts.length r).bind fun vs=>CG E ts ((List.range ts.length).map fun j=>vs.getD j .bad) fun us=>k (.aP us)
def BT(fid:FuncId)(ts:List TypeId)(r:PV)(k:V→Option R):Option R:=
 match E.fnr fid with
 |some s=>(Yu s r).bind fun ls=>k (.pv (Is s ((List.range s.n).map fun j=>ls.getD j .bad)).1)
 |none=>CH E ts r k
def bC(f:Fr):Operand→V
 |.tmp t=>bif Nat.blt t E.fn.ntmps then f t else .top
 |.const c=>G3 c
 |.global g=>match E.aG g with|some cs=>.pv (.rp cs)|none=>.top
 |.func f=>bif Nat.blt f D4 then .fn f []else .top
def fresh(draw:Bool)(site:Nat)(b:bH)(f:Fr)(m:Mem)(k:Fr→Mem→bq→Option R):Option R:=
 match m site with
 |none=>k f (ao m site b) [(true,site)]
 |some _=>if draw||b.names site then none else k (eN site f) (ao (bD site m) site b) [(true,site)]
def rf:V→Option (List V)
 |.pv (.agg cs)=>some (cs.map .pv)
 |.agg cs=>some cs
 |_=>none
def cM:Mem:=fun _=>none
def mQ(op:BinOp)(t:TypeId)(a b:V)(k:PV→Option R):Option R:=
 match a,b with
 |.pv (.int q x),.pv (.int q' y)=>match op with
  |.shl=>if y<0 then none else k (.int q (q.wrap (x*2^(min y.toNat q.bits))))
  |.shr=>if y<0 then none else k (.int q (x.fdiv (2^(min y.toNat q.bits))))
  |op=>if q=q' then match op with
   |.add=>k (.int q (q.wrap (x+y)))
   |.sub=>k (.int q (q.wrap (x-y)))
   |.mul=>k (.int q (q.wrap (x*y)))
   |.quo=>if y=0 then none else k (.int q (q.wrap (x.tdiv y)))
   |.rem=>if y=0 then none else k (.int q (x.tmod y))
   |.and=>k (.int q (q.wrap (BitVec.ofInt q.bits x&&&BitVec.ofInt q.bits y).toNat))
   |.or=>k (.int q (q.wrap (BitVec.ofInt q.bits x|||BitVec.ofInt q.bits y).toNat))
   |.xor=>k (.int q (q.wrap (BitVec.ofInt q.bits x^^^BitVec.ofInt q.bits y).toNat))
   |.andNot=>k (.int q (q.wrap (BitVec.ofInt q.bits x&&& ~~~(BitVec.ofInt q.bits y)).toNat))
   |.eql=>k (.bool (x==y))
   |.neq=>k (.bool (x !=y))
   |.lss=>k (.bool (decide (x<y)))
   |.leq=>k (.bool (decide (x≤y)))
   |.gtr=>k (.bool (decide (x>y)))
   |.geq=>k (.bool (decide (x≥y)))
   |_=>none
   else none
 |.pv (.str x),.pv (.str y)=>match op with
  |.add=>if E.lp.room (x.length+y.length)=true then k (.str (x++y))else none
  |.eql=>k (.bool (x==y))
  |.neq=>k (.bool (!(x==y)))
  |.lss=>k (.bool (Op.bytesLess x y))
  |.leq=>k (.bool (Op.bytesLess x y||x==y))
  |.gtr=>k (.bool (!(Op.bytesLess x y||x==y)))
  |.geq=>k (.bool (!(Op.bytesLess x y)))
  |_=>none
 |.pv (.bool x),.pv (.bool y)=>match op,E.P.underlying t with
  |.eql,some .bool=>k (.bool (x==y))
  |.neq,some .bool=>k (.bool (!(x==y)))
  |_,_=>none
 |.pv .q8,.pv .q8=>match op,E.P.underlying t with
  |.eql,some (.pointer _)=>k (.bool true)
  |.neq,some (.pointer _)=>k (.bool false)
  |_,_=>none
 |.fn _ _,.pv .Dx|.pv (.fn _ _),.pv .Dx=>match op,E.P.underlying t with
  |.eql,some (.func _ _ _)=>k (.bool false)
  |.neq,some (.func _ _ _)=>k (.bool true)
  |_,_=>none
 |.pv (.rp _),.pv .q8|.op _ _,.pv .q8|.oe _ _ _,.pv .q8=>match op,E.P.underlying t with
  |.eql,some (.pointer _)=>k (.bool false)
  |.neq,some (.pointer _)=>k (.bool true)
  |_,_=>none
 |a,b=>if ax E.P t then match sU E.P t,rf a,rf b with
  |some ks,some as,some bs=>match qF (lx cM 1) as,qF (lx cM 1) bs with
   |some as,some bs=>if lN ks as=true∧lN ks bs=true then match op with
    |.eql=>k (.bool (cz as bs))
    |.neq=>k (.bool (!(cz as bs)))
    |_=>none
    else none
   |_,_=>none
  |_,_,_=>none
  else none
def D6:Operand→Bool
 |.const .nilIface=>true
 |_=>false
def TA(op:BinOp)(t:TypeId)(a:V)(k:PV→Option R):Option R:=
 match a with
 |.pv (.Ys b)=>match op,E.P.underlying t with
  |.eql,some (.interface _)=>k (.bool (!b))
  |.neq,some (.interface _)=>k (.bool b)
  |_,_=>none
 |_=>none
def J8(op:BinOp)(t:TypeId)(y:Operand)(a b:V)(k:PV→Option R):Option R:=bif D6 y then TA E op t a k else mQ E op t a b k
noncomputable def agree(a b:Option R):Option R:= @ite _ (a=b) (Classical.propDecidable _) a none
noncomputable def MH(op:BinOp)(t:TypeId)(es:List PV)(k:Bool→Option R):Option R:=
 match op,E.P.underlying t with
 |.eql,some (.slice _)=>if es.isEmpty=true then agree (k true) (k false)else k false
 |.neq,some (.slice _)=>if es.isEmpty=true then agree (k false) (k true)else k true
 |_,_=>none
def xun(op:UnOp)(a:V)(k:PV→Option R):Option R:=
 match op,a with
 |.not,.pv (.bool b)=>k (.bool !b)
 |.neg,.pv (.int q n)=>k (.int q (q.wrap (0-n)))
 |.xor,.pv (.int q n)=>k (.int q (q.wrap (BitVec.ofInt q.bits (if q.signed then-1 else q.max)^^^BitVec.ofInt q.bits n).toNat))
 |_,_=>none
def D7(s d:TypeId)(a:V)(k:PV→Option R):Option R:=
 match E.P.underlying s,E.P.underlying d,a with
 |some (.int q),some (.int q'),.pv (.int q'' n)=>if q''=q then(if q'=q then k (.int q n)else k (.int q' (q'.wrap n)))else none
 |some .string,some .string,.pv (.str s)=>k (.str s)
 |_,_,_=>none
def th(s:Nat)(t:TypeId)(e:PV)(off:Nat)(k:V→Option R):Option R:=
 if ax E.P t then(if off+aO E.P t≤s then k (.pv (.agg (((aC s e).drop off).take (aO E.P t))))else none)
 else match(aC s e)[off]? with
  |some p=>iu E t p fun p=>k (.pv p)
  |none=>none
def pvO:V→Option PV
 |.pv p=>some p
 |_=>none
def BU(t:TypeId)(s i off:Nat):Bool:=match E.P.underlying t with
 |some (.array _ e)=>Nat.beq (aO E.P e) s&&ax E.P e&&Nat.beq i 0&&Nat.beq off 0
 |_=>false
def qx(own:Bool)(t:TypeId)(a:V)(m:Mem)(k:V→bq→Option R):Option R:=
 match a with
 |.pv (.rp cs)=>
  if ax E.P t then(if aO E.P t≤cs.length then k (.pv (.agg (cs.take (aO E.P t)))) []else none)
  else(cs.head?).bind fun p=>iu E t p fun p=>k (.pv p) []
 |.op id off=>match m id with
  |some (.box cs)=>
   if ax E.P t then(if off+aO E.P t≤cs.length then k (.agg ((cs.drop off).take (aO E.P t))) [(false,id)]else none)
   else match qF pvO cs with
    |some ps=>(ps[off]?).bind fun p=>iu E t p fun p=>k (.pv p) [(false,id)]
    |none=>match cs[off]? with
     |some v=>Au E t v fun v=>k v [(false,id)]
     |none=>none
  |_=>none
 |.oe id i off=>match m id with
  |some (.arr s _ es)=>bif BU E t s i off then(if es.length*s=aO E.P t then k (.pv (.agg (fN s es))) [(false,id)]else none)else(es[i]?).bind fun e=>th E s t e off fun v=>k v [(false,id)]
  |some (.qT s _ es)=>(es[i]?).bind fun e=>th E s t e off fun v=>k v [(false,id)]
  |some (.nest _ _ es)=>if ax E.P t then none else(es[i]?).bind fun e=>
   if own then(match E.P.underlying t with
    |some (.slice et)=>(fb (aO E.P et) (cell e off)).bind fun _=>k (.wI id i off) [(false,id)]
    |_=>none)
   else iu E t (cell e off) fun p=>k (.pv p) [(false,id)]
  |_=>none
 |.Ar id i off s j off2=>match m id with
  |some (.nest _ _ es)=>(es[i]?).bind fun e=>(fb s (cell e off)).bind fun rs=>(rs[j]?).bind fun q=>th E s t q off2 fun v=>k v [(false,id)]
  |_=>none
 |_=>none
def over{T:Type}:List T→List T→List T
 |[],cs=>cs
 |x::new,[]=>x::over new []
 |x::new,_::cs=>x::over new cs
def bJ{T:Type}:List T→Nat→List T→List T
 |cs,0,new=>over new cs
 |[],_+1,new=>new
 |c::cs,off+1,new=>c::bJ cs off new
theorem It{T:Type}:∀(new cs:List T),over new cs=new++cs.drop new.length
 |[],cs=>by rfl
 |x::new,[]=>by simp[over,It new []]
 |x::new,_::cs=>by simp[over,It new cs]
theorem dP{T:Type}:∀(cs:List T)(off:Nat)(new:List T),bJ cs off new=cs.take off++new++cs.drop (off+new.length)
 |cs,0,new=>by cases cs<;>simp[bJ,It]
 |[],_+1,new=>by simp[bJ]
 |c::cs,off+1,new=>by rw[bJ,dP cs off new,show off+1+new.length=(off+new.length)+1 by omega];simp
def wK(draw:Bool)(m:Mem)(n:Nat)(agg:Bool)(v:V):Option (PV×Mem):=if draw then(match kH cM n agg v with|some (p,_)=>some (p,m)|none=>none)else kH m n agg v
def setRow(s:Nat)(e:PV)(off:Nat)(p:PV):PV:=if s=1 then p else .agg ((aC s e).set off p)
def setCells(s:Nat)(e:PV)(off n:Nat)(p:PV):PV:=if off=0∧n=s then p else .agg (bJ (aC s e) off p.cells)
def MI(t:TypeId)(i off:Nat)(b:Option bH)(x:V):Option (Nat×TypeId×Nat×PV):=match b,x with
 |some (.arr s et es),.pv p=>bif BU E t s i off then some (s,et,es.length,p)else none
 |_,_=>none
def tl(draw:Bool)(t:TypeId)(a x:V)(m:Mem)(k:Mem→bq→Option R):Option R:=
 match a with
 |.op id off=>match m id with
  |some (.box cs)=>match toCells (aO E.P t) x with
   |some new=>if off+aO E.P t≤cs.length∧0<aO E.P t then k (ao m id (.box (bJ cs off new))) [(true,id)]else none
   |none=>none
  |_=>none
 |.oe id i off=>match MI E t i off (m id) x with
  |some (s,et,n,p)=>(asAgg (aO E.P t) p).bind fun _=>if n*s=aO E.P t∧0<aO E.P t then k (ao m id (.arr s et (fk s n p))) [(true,id)]else none
  |none=>match wK draw m (aO E.P t) (ax E.P t) x with
  |some (p,m)=>match m id with
   |some (.arr s et es)=>(es[i]?).bind fun e=>
    if off=0∧aO E.P t=s∧0<s then k (ao m id (.arr s et (es.set i p))) [(true,id)]
    else if off+aO E.P t≤s∧0<aO E.P t∧1<s then k (ao m id (.arr s et (es.set i (.agg (bJ (aC s e) off p.cells))))) [(true,id)]
    else none
   |some (.nest s et es)=>(es[i]?).bind fun e=>if off+aO E.P t≤s∧0<aO E.P t∧1<s then k (ao m id (.nest s et (es.set i (.agg (bJ (aC s e) off p.cells))))) [(true,id)]else none
   |_=>none
  |none=>none
 |.Ar id i off s j off2=>match kH cM (aO E.P t) (ax E.P t) x with
  |some (p,_)=>match m id with
   |some (.nest s0 et es)=>(es[i]?).bind fun e=>(fb s (cell e off)).bind fun rs=>(rs[j]?).bind fun q=>
    if off2+aO E.P t≤s∧0<aO E.P t∧off<s0 then k (ao m id (.nest s0 et (es.set i (setRow s0 e off (.qE s (rs.set j (setCells s q off2 (aO E.P t) p))))))) [(true,id)]
    else none
   |_=>none
  |none=>none
 |_=>none
def Gu(m:Mem)(x:V)(k:Nat→bq→Option R):Option R:=
 match x with
 |.pv (.rs _ es)=>k es.length []
 |.iq=>k 0 []
 |.fL id _ len=>match m id with
  |some (.arr _ _ _)=>k len [(false,id)]
  |some (.qT _ _ _)=>k len [(false,id)]
  |_=>none
 |.os id=>match m id with
  |some (.arr _ _ es)=>k es.length [(false,id)]
  |some (.qT _ _ es)=>k es.length [(false,id)]
  |some (.nest _ _ es)=>k es.length [(false,id)]
  |some (.box cs)=>if cs.length≤maxLen then k cs.length [(false,id)]else none
  |_=>none
 |_=>none
def Q7(sz:Nat)(m:Mem)(x:V)(k:Nat→bq→Option R):Option R:=
 match x with
 |.wI id i off=>match m id with
  |some (.nest _ _ es)=>(es[i]?).bind fun e=>(fb sz (cell e off)).bind fun rs=>k rs.length [(false,id)]
  |_=>none
 |x=>Gu m x k
def TB(m:Mem)(x:V)(k:Nat→bq→Option R):Option R:=
 match x with
 |.om id=>match m id with
  |some (.map _ es)=>if es.length≤maxLen then k es.length [(false,id)]else none
  |_=>none
 |.pv .uU=>k 0 []
 |_=>none
def J9(t:TypeId)(x:V)(m:Mem)(k:V→bq→Option R):Option R:=
 match E.P.underlying t with
 |some (.array n _)=>if n≤maxLen then k (.pv (.int .i64 n)) []else none
 |some .string=>match x with
  |.pv (.str s)=>k (.pv (.int .i64 s.length)) []
  |_=>none
 |some (.slice e)=>Q7 (aO E.P e) m x fun n ft=>k (.pv (.int .i64 n)) ft
 |some (.map _ _)=>TB m x fun n ft=>k (.pv (.int .i64 n)) ft
 |_=>none
def fl(m:Mem)(sz:Nat):V→Option (List PV×bq)
 |.pv (.rs s es)=>if s=sz then some (es,[])else match es with|[]=>some ([],[])|_=>none
 |.iq=>some ([],[])
 |.os id=>match m id with
  |some (.arr s' _ es)=>if s'=sz then some (es,[(false,id)])else none
  |some (.qT s' _ es)=>if s'=sz then some (es,[(false,id)])else none
  |_=>none
 |.fL id lo len=>match m id with
  |some (.arr s' _ es)=>if s'=sz then some ((es.drop lo).take len,[(false,id)])else none
  |some (.qT s' _ es)=>if s'=sz then some ((es.drop lo).take len,[(false,id)])else none
  |_=>none
 |.wI id i off=>match m id with
  |some (.nest _ _ es)=>(es[i]?).bind fun e=>(fb sz (cell e off)).bind fun rs=>some (rs,[(false,id)])
  |_=>none
 |_=>none
def Iu(m:Mem)(sz:Nat)(x:V)(k:List PV→bq→Option R):Option R:=
 match x with
 |.wI id i off=>match m id with
  |some (.nest _ _ es)=>(es[i]?).bind fun e=>(fb sz (cell e off)).bind fun rs=>k rs [(false,id)]
  |_=>none
 |x=>match fl m sz x with
  |some (es,ft)=>k es ft
  |none=>none
def BV:List PV→Option Bytes
 |[]=>some []
 |.int .u8 n::r=>(BV r).map fun b=>UInt8.ofNat n.toNat::b
 |_=>none
def BW(s d:TypeId)(a:V)(m:Mem)(k:PV→bq→Option R):Option R:=
 match E.P.underlying s,E.P.underlying d with
 |some (.slice e),some .string=>match E.P.underlying e,fl m 1 a with
  |some (.int .u8),some (es,ft)=>(BV es).bind fun b=>k (.str b) ft
  |_,_=>none
 |_,_=>D7 E s d a fun p=>k p []
def au(i:Int)(n:Nat):Prop:=0≤i∧i<(n:Int)
instance (i:Int) (n:Nat):Decidable (au i n):=inferInstanceAs (Decidable (_∧_))
def cX(t:TypeId)(x ix:V)(m:Mem)(k:V→bq→Option R):Option R:=
 match ix with
 |.pv (.int _ i)=>match E.P.underlying t,x with
  |some (.slice e),.pv (.rs s es)=>if s=aO E.P e∧0<s then(fM es i).bind fun p=>k (.pv (.rp (aC s p))) []else none
  |some (.slice e),.os id=>match m id with
   |some (.arr s _ es)=>if s=aO E.P e∧0<s then(if au i es.length then k (.oe id i.toNat 0) [(false,id)]else none)else none
   |some (.qT s _ es)=>if s=aO E.P e∧0<s then(if au i es.length then k (.oe id i.toNat 0) [(false,id)]else none)else none
   |some (.nest s _ es)=>if s=aO E.P e∧0<s then(if au i es.length then k (.oe id i.toNat 0) [(false,id)]else none)else none
   |some (.box cs)=>if aO E.P e=1∧au i cs.length then k (.op id i.toNat) [(false,id)]else none
   |_=>none
  |some (.slice e),.wI id i0 off=>match m id with
   |some (.nest _ _ es)=>if 0<aO E.P e then(es[i0]?).bind fun e0=>(fb (aO E.P e) (cell e0 off)).bind fun rs=>if au i rs.length then k (.Ar id i0 off (aO E.P e) i.toNat 0) [(false,id)]else none else none
   |_=>none
  |some (.slice e),.fL id lo len=>match m id with
   |some (.arr s _ _)=>if s=aO E.P e∧0<s then(if au i len then k (.oe id (lo+i.toNat) 0) [(false,id)]else none)else none
   |some (.qT s _ _)=>if s=aO E.P e∧0<s then(if au i len then k (.oe id (lo+i.toNat) 0) [(false,id)]else none)else none
   |_=>none
  |some (.array n e),.op id off=>if au i n∧0<aO E.P e then k (.op id (off+i.toNat*aO E.P e)) []else none
  |some (.array n e),.pv (.rp cs)=>if au i n∧0<aO E.P e then k (.pv (.rp (cs.drop (i.toNat*aO E.P e)))) []else none
  |some (.array n e),.oe id j off=>if au i n∧0<aO E.P e then(match(match m id with|some (.arr s _ _)=>Nat.beq (aO E.P e) s|_=>false)with
   |true=>k (.oe id (i.toNat+j) off) [(false,id)]
   |false=>k (.oe id j (off+i.toNat*aO E.P e)) [(false,id)])else none
  |_,_=>none
 |_=>none
def Av(s:TypeId)(j:Nat):Option (Nat×TypeId):=
 match E.P.underlying s with
 |some (.struct fs)=>match fs[j]? with
  |some f=>if aO E.P f.type=0 then none else some (f.offset,f.type)
  |none=>none
 |_=>none
def kc(s:TypeId)(x:V)(j:Nat)(k:V→Option R):Option R:=
 match Av E s j with
 |some (o,_)=>match x with
  |.pv (.rp cs)=>k (.pv (.rp (cs.drop o)))
  |.op id off=>k (.op id (off+o))
  |.oe id i off=>k (.oe id i (off+o))
  |.Ar id i off s j off2=>k (.Ar id i off s j (off2+o))
  |_=>none
 |none=>none
def D8(t:TypeId)(cs:List V)(off:Nat)(k:V→Option R):Option R:=
 if ax E.P t then(if off+aO E.P t≤cs.length then k (.agg ((cs.drop off).take (aO E.P t)))else none)
 else match cs[off]? with
  |some v=>Au E t v k
  |none=>none
def D9(s:TypeId)(x:V)(j:Nat)(k:V→Option R):Option R:=
 match Av E s j,rf x with
 |some (o,t),some cs=>D8 E t cs o k
 |_,_=>none
def BX(t:TypeId)(x ix:V)(k:V→Option R):Option R:=
 match ix with
 |.pv (.int _ i)=>match E.P.underlying t,x with
  |some .string,.pv (.str s)=>(Yt s i).bind fun b=>k (.pv (.int .u8 b.toNat))
  |some (.array n et),x=>match rf x with
   |some cs=>if au i n∧0<aO E.P et then D8 E et cs (i.toNat*aO E.P et) k else none
   |none=>none
  |_,_=>none
 |_=>none
def jN(d:Int):Option V→Option Int
 |none=>some d
 |some (.pv (.int _ i))=>some i
 |_=>none
def uX(t:TypeId)(x:V)(lo hi mx:Option V)(m:Mem)(k:V→bq→Option R):Option R:=
 match mx with
 |some mx=>match E.P.underlying t,x with
  |some (.slice e),.os id=>match m id with
   |some (.arr s _ es)=>match lo,hi,mx with
    |none,some (.pv (.int _ h)),.pv (.int _ c)=>if 0≤h∧h≤c∧c≤(es.length:Int)∧s=aO E.P e then k (.fL id 0 h.toNat) [(false,id)]else none
    |_,_,_=>none
   |_=>none
  |_,_=>none
 |none=>match E.P.underlying t,x with
  |some .string,.pv (.str s)=>match jN 0 lo,jN s.length hi with
   |some l,some h=>if 0≤l∧l≤h∧h≤(s.length:Int)then k (.pv (.str ((s.take h.toNat).drop l.toNat))) []else none
   |_,_=>none
  |some (.slice e),.pv (.rs sz es)=>match jN 0 lo,jN es.length hi with
   |some l,some h=>if 0≤l∧l≤h∧h≤(es.length:Int)∧sz=aO E.P e∧aO E.P e≠0 then k (.pv (.rs sz ((es.take h.toNat).drop l.toNat))) []else none
   |_,_=>none
  |some (.slice e),.os id=>match m id with
   |some (.arr s _ es)=>match jN 0 lo,jN es.length hi with
    |some l,some h=>if 0≤l∧l≤h∧h≤(es.length:Int)∧s=aO E.P e then k (.fL id l.toNat (h.toNat-l.toNat)) [(false,id)]else none
    |_,_=>none
   |some (.qT s _ es)=>match jN 0 lo,jN es.length hi with
    |some l,some h=>if 0≤l∧l≤h∧h≤(es.length:Int)∧s=aO E.P e then k (.fL id l.toNat (h.toNat-l.toNat)) [(false,id)]else none
    |_,_=>none
   |_=>none
  |_,_=>none
def placesOf(fs:List Field)(j:Nat):Option (Nat×Nat):=(fs[j]?).map fun f=>(f.offset,aO E.P f.type)
def G5(place:Nat→Option (Nat×Nat))(cs:List V):List (Nat×V)→Option (List V)
 |[]=>some cs
 |(i,v)::rest=>match place i with
  |some (off,size)=>match toCells size v with
   |some new=>if off+size≤cs.length then G5 place (bJ cs off new) rest else none
   |none=>none
  |none=>none
def cY(t:TypeId):Option (List V):=match zeroV E.P t with|some v=>toCells (aO E.P t) v|none=>none
def BZ(t:TypeId)(parts:List (Nat×V))(k:V→Option R):Option R:=
 match cY E t,E.P.underlying t with
 |some z,some (.struct fs)=>if fs.toList.all (fun f=>(E.P.info? f.type).isSome)then match G5 (placesOf E fs.toList) z parts with
  |some cs=>k (.agg cs)
  |none=>none
  else none
 |some z,some (.array _ e)=>if 0<aO E.P e then match G5 (fun i=>some (i*aO E.P e,aO E.P e)) z parts with
  |some cs=>k (.agg cs)
  |none=>none
  else none
 |_,_=>none
def eW(m:Mem)(n:Nat)(agg:Bool):Nat→List (Nat×V)→Option (List PV×Mem)
 |_,[]=>some ([],m)
 |i,(j,v)::r=>if i=j then match kH m n agg v with
  |some (p,m)=>match eW m n agg (i+1) r with
   |some (ps,m)=>some (p::ps,m)
   |none=>none
  |none=>none
  else none
def Ea:Nat→List (Nat×V)→Option (List V)
 |_,[]=>some []
 |i,(j,v)::r=>if i=j then match toCells 1 v with
  |some cs=>match Ea (i+1) r with
   |some us=>some (cs++us)
   |none=>none
  |none=>none
  else none
def OX(t:TypeId):Bool:=match E.P.underlying t with|some (.func _ _ _)=>true|_=>false
def B0(t:TypeId):Option PV:=match zeroV E.P t with
 |some v=>match lx cM 2 v with
  |some p=>if ax E.P t=p.isAgg∧p.cells.length=aO E.P t∧p.plain=true then some p else none
  |none=>none
 |none=>none
def keyOf(kt:TypeId)(v:V):Option PV:=
 match sU E.P kt with
 |some ks=>
  if ax E.P kt then(match rf v with
   |some cs=>match qF (lx cM 1) cs with
    |some ps=>if lN ks ps then some (.agg ps)else none
    |none=>none
   |none=>none)
  else match v with
   |.pv p=>if lN ks [p]then some p else none
   |_=>none
 |none=>none
def Ka(site:Nat)(t:TypeId)(x ix:V)(m:Mem)(k:V→Mem→bq→Option R):Option R:=
 match E.P.underlying t with
 |some (.map kt et)=>match E.P.underlying et with
  |some (.slice e)=>match x,zeroV E.P et with
   |.om id,some .iq=>match m id,m site with
    |some (.fa wE e' es),none=>if wE=kt∧e'=e∧0<aO E.P e then(keyOf E kt ix).bind fun key=>(J6 (aO E.P e) key es).bind fun rs=>k (.os site) (ao (ao m id (.fa kt e (uh key es))) site (.arr (aO E.P e) e rs)) [(true,id),(true,site)]else none
    |_,_=>none
   |_,_=>none
  |_=>none
 |_=>none
def uY(t:TypeId)(x ix:V)(ok:Bool)(m:Mem)(k:V→bq→Option R):Option R:=
 match E.P.underlying t with
 |some (.map kt et)=>match B0 E et with
  |some z=>match x with
   |.om id=>match m id with
    |some (.map wE es)=>if wE=kt then(keyOf E kt ix).bind fun key=>iu E et (b9 key z es) fun v=>k (if ok then .aP [.pv v,.pv (.bool (sH key es))]else .pv v) [(false,id)]else none
    |_=>none
   |.pv p=>cD kt p ((keyOf E kt ix).bind fun _=>k (if ok then .aP [.pv z,.pv (.bool false)]else .pv z) []) fun ks vs=>(keyOf E kt ix).bind fun key=>iu E et (b9 key z (ks.zip vs)) fun v=>k (if ok then .aP [.pv v,.pv (.bool (sH key (ks.zip vs)))]else .pv v) []
   |_=>none
  |none=>none
 |_=>none
def Aw(draw:Bool)(m:Mem)(v:V):Option (PV×Mem):=if draw then(match uV cM v with|some (p,_)=>some (p,m)|none=>none)else uV m v
def oC(draw:Bool)(t:TypeId)(x key val:V)(m:Mem)(k:Mem→bq→Option R):Option R:=
 match E.P.underlying t with
 |some (.map kt _)=>match x with
  |.om id=>match Aw draw m val with
   |some (v,m)=>match m id with
    |some (.map wE es)=>if wE=kt then(keyOf E kt key).bind fun key=>k (ao m id (.map kt (df key v es))) [(true,id)]else none
    |_=>none
   |none=>none
  |_=>none
 |_=>none
def ah:Nat:=140737488355328
def lO(m:Mem):Nat→List V→Option (List PV×Option (Nat×Nat))
 |_,[]=>some ([],none)
 |j,.os id::r=>match m id with
  |some (.arr s _ es)=>match lO m (j+1) r with
   |some (ps,none)=>some (.qE s es::ps,some (j,id))
   |_=>none
  |_=>none
 |j,v::r=>match lx cM 1 v with
  |some p=>match lO m (j+1) r with
   |some (ps,t)=>some (p::ps,t)
   |none=>none
  |none=>none
def elemOf(agg:Bool)(ps:List PV):Option PV:=if agg then some (.agg ps)else match ps with|[p]=>some p|_=>none
inductive Sp where
 |st (id i off s:Nat) (et:TypeId) (es ps:List PV) (id2:Nat)
 |app (id s:Nat) (et:TypeId) (es new:List PV) (src:Option Nat) (rd:bq)
 |lit (s:Nat) (et:TypeId) (p:PV) (id2:Nat)
 |upd (id:Nat) (kt e:TypeId) (es:List (PV×PV)) (key:PV) (s:Nat) (rs:List PV) (id2:Nat)
def zB(site:Nat)(o:Oper)(f:Fr)(m:Mem):Option Sp:=
 match o.op with
 |.store t a x=>match bC E f a with
  |.oe id i off=>match m id with
   |some (.nest s et es)=>match toCells (aO E.P t) (bC E f x)with
    |some cs=>match lO m 0 cs with
     |some (ps,some (_,id2))=>if off+aO E.P t≤s&&0<aO E.P t&& !(Nat.beq id2 id)then some (.st id i off s et es ps id2)else none
     |_=>none
    |none=>none
   |_=>none
  |_=>none
 |.buildSlice t len parts=>match E.P.underlying t,parts.toList.map fun(i,x)=>(i,bC E f x)with
  |some (.slice e),[(0,v)]=>match toCells (aO E.P e) v with
   |some cs=>match lO m 0 cs,m site with
    |some (ps,some (_,id2)),none=>match elemOf (ax E.P e) ps with
     |some p=>if Nat.beq len 1&&0<aO E.P e&&aO E.P e≤16777216&&(cY E e).isSome then some (.lit (aO E.P e) e p id2)else none
     |none=>none
    |_,_=>none
   |none=>none
  |_,_=>none
 |.call c=>match c.callee,c.args.toList.map (bC E f),c.argTypes.toList with
  |.builtin .append,[.os id,x],[t,t']=>match E.P.underlying t,m id with
   |some (.slice e),some (.nest s et es)=>if et=e&&s=aO E.P e&&decide (t'=t)&&(cY E e).isSome&&0<aO E.P e&&0<Gt E.P e then(match x with
    |.os sI=>match m sI with
     |some (.nest s' Gq new)=>if Nat.beq s' s&&decide (Gq=et)&& !(Nat.beq sI id)then some (.app id s et es new (some sI) [])else none
     |_=>match fl m s x with
      |some (new,rd)=>if x.has id then none else some (.app id s et es new none rd)
      |none=>none
    |_=>match fl m s x with
     |some (new,rd)=>if x.has id then none else some (.app id s et es new none rd)
     |none=>none)else none
   |_,_=>none
  |_,_,_=>none
 |.mapUpdate t x key v=>match E.P.underlying t,bC E f x,bC E f v with
  |some (.map kt _),.om id,.os id2=>match m id,m id2,keyOf E kt (bC E f key)with
   |some (.fa wE e es),some (.arr s e' rs),some key=>if decide (wE=kt)&&decide (e'=e)&&Nat.beq s (aO E.P e)then some (.upd id kt e es key s rs id2)else none
   |_,_,_=>none
  |_,_,_=>none
 |_=>none
def Sp.info(site:Nat):Sp→Kl×bq
 |.st id _ _ _ _ _ _ id2=>([(true,id2),(false,id)],[(true,id),(true,id2)])
 |.app id _ _ _ _ (some id2) _=>([(true,id2),(true,id)],[(true,id),(true,id2)])
 |.app id _ _ _ _ none rd=>([(true,id)],(true,id)::rd)
 |.lit _ _ _ id2=>([(true,id2)],[(true,site),(true,id2)])
 |.upd id _ _ _ _ _ _ id2=>([(true,id2),(false,id)],[(true,id),(true,id2)])
def xsp(site:Nat)(sp:Sp)(f:Fr)(m:Mem)(k:V→Fr→Mem→bq→Option R):Option R:=
 match sp with
 |.st id i off s et es ps id2=>(es[i]?).bind fun e=>k .top (kf [(true,id2),(false,id)] f) (ue [(id,.nest s et (es.set i (if s=1 then ps.headD .bad else .agg (bJ (aC s e) off ps))))] (km [(true,id2),(false,id)] m)) [(true,id),(true,id2)]
 |.app id s et es new src rd=>if(es++new).length*Gt E.P et≤ah then k (.os id) (kf (Sp.app id s et es new src rd|>.info site).1 f) (ue [(id,.nest s et (es++new))] (km (Sp.app id s et es new src rd|>.info site).1 m)) (Sp.app id s et es new src rd|>.info site).2 else none
 |.lit s et p id2=>k (.os site) (kf [(true,id2)] f) (ue [(site,.nest s et [p])] (km [(true,id2)] m)) [(true,site),(true,id2)]
 |.upd id kt e es key s rs id2=>k .top (kf [(true,id2),(false,id)] f) (ue [(id,.fa kt e (df key (.qE s rs) es))] (km [(true,id2),(false,id)] m)) [(true,id),(true,id2)]
def Ax(draw:Bool)(site:Nat)(t t':TypeId)(s x:V)(f:Fr)(m:Mem)(k:V→Fr→Mem→Option R):Option R:=
 if draw|| !(decide (t'=t))then none else
 match E.P.underlying t with
 |some (.slice e)=>if(cY E e).isNone then none else match fl m (aO E.P e) x with
  |some (new,_)=>match s with
   |.iq=>if new.length*Gt E.P e≤ah∧0<Gt E.P e∧0<aO E.P e then fresh draw site (.arr (aO E.P e) e new) f m (fun f m _=>k (.os site) f m)else none
   |.os id=>match m id with
    |some (.arr sz et es)=>if et=e∧sz=aO E.P e∧x.has id=false then(if(es++new).length*Gt E.P e≤ah∧0<Gt E.P e then fresh draw id (.arr sz e (es++new)) (eN id f) (bg (bD id m) id) (fun f m _=>k (.os id) f m)else none)else none
    |_=>none
   |_=>none
  |none=>none
 |_=>none
def Kb(t:TypeId)(d x:V)(m:Mem)(k:V→Mem→bq→Option R):Option R:=
 match E.P.underlying t with
 |some (.slice e)=>match d with
  |.os id=>match m id with
   |some (.arr sz et es)=>if sz=aO E.P e∧x.has id=false then Iu m sz x fun new ft=>k (.pv (.int .i64 (min new.length es.length:Nat))) (ao m id (.arr sz et (new.take es.length++es.drop new.length))) ((true,id)::ft)else none
   |_=>none
  |_=>none
 |_=>none
def Eb(t:TypeId)(x:V)(m:Mem)(k:V→Mem→bq→Option R):Option R:=
 match E.P.underlying t with
 |some (.slice e)=>match x,B0 E e with
  |.fL id lo len,some z=>match m id with
   |some (.arr sz et es)=>if sz=aO E.P e∧et=e∧lo+len≤es.length∧0<aO E.P e then k .top (ao m id (.arr sz et (es.take lo++(List.replicate len z++es.drop (lo+len))))) [(true,id)]else none
   |_=>none
  |_,_=>none
 |_=>none
def ri(draw:Bool)(site:Nat)(t:TypeId)(len cap:V)(f:Fr)(m:Mem)(k:V→Fr→Mem→bq→Option R):Option R:=
 match E.P.underlying t,len,cap with
 |some (.slice e),.pv (.int _ n),.pv (.int _ c)=>match B0 E e with
  |some z=>if 0≤n∧n≤c∧c.toNat*Gt E.P e≤ah∧0<Gt E.P e∧0<aO E.P e then fresh draw site (.arr (aO E.P e) e (List.replicate n.toNat z)) f m (fun f m ft=>k (.os site) f m ft)else none
  |none=>none
 |_,_,_=>none
def Kc(a b:V)(k:PV→Option R):Option R:=match a,b with
 |.pv (.int q x),.pv (.int q' y)=>if q=q' then k (.int q (if y<x then y else x))else none
 |_,_=>none
def CI(a b:V)(k:PV→Option R):Option R:=match a,b with
 |.pv (.int q x),.pv (.int q' y)=>if q=q' then k (.int q (if y>x then y else x))else none
 |_,_=>none
def Ke(a b c d:V)(k:PV→Option R):Option R:=CI a b fun p=>CI (.pv p) c fun p=>CI (.pv p) d k
def uZ(t:TypeId):Bool:=match E.P.underlying t with|some (.int _)|some .bool|some .string=>true|_=>false
def iV(m:Mem):List V→Option (List PV×Mem)
 |[]=>some ([],m)
 |v::r=>match uV m v with
  |some (p,m)=>match iV m r with
   |some (ps,m)=>some (p::ps,m)
   |none=>none
  |none=>none
def G6:PV→PV
 |.int q n=>.int q n
 |.bool b=>.bool b
 |.str s=>.str s
 |_=>.bad
def vQ(draw:Bool)(site:Nat)(fid:FuncId)(args:List V)(f:Fr)(m:Mem)(k:V→Fr→Mem→bq→Option R):Option R:=
 match E.ctx fid with
 |some M=>match E.P.funcs[fid]? with
  |some fn=>
   if fn.resultTypes.toList.all (uZ E)then(match qF (lx m eB) args with
     |some ps=>(M ps).bind fun r=>CH E fn.resultTypes.toList r fun v=>k v f m ((iU (cE m eB) args).map fun i=>(false,i))
     |none=>none)
   else(match iV (if draw then cM else m) args with
     |some (ps,m')=>(M ps).bind fun r=>BT E fid fn.resultTypes.toList r fun v=>k v f (if draw then m else m') (if draw then[]else[(true,0)])
     |none=>none)
  |none=>none
 |none=>match E.own fid with
  |some M=>match E.P.funcs[fid]? with
   |some fn=>match fn.resultTypes.toList with
    |[t]=>match E.P.underlying t with
     |some (.slice e)=>if uZ E e=true∧aO E.P e=1 then(match qF (lx m eB) args with
      |some ps=>(M ps).bind fun r=>(aw (aO E.P e) r).bind fun es=>fresh draw site (.arr (aO E.P e) e (es.map G6)) f m fun f m1 ft=>k (.os site) f m1 (ft++(iU (cE m eB) args).map fun i=>(false,i))
      |none=>none)
      else match iV (if draw then cM else m) args with
      |some (ps,m')=>(M ps).bind fun r=>(aw (aO E.P e) r).bind fun es=>fresh draw site (.arr (aO E.P e) e es) f (if draw then m else m') fun f m ft=>k (.os site) f m ft
      |none=>none
     |_=>none
    |_=>none
   |none=>none
  |none=>if draw then none else E.inl R fid (site*4096+fid) args f m fun v f m=>k v f m [(true,0)]
def TC(f:TypeId→Option (List TypeId)):List Field→Option (List TypeId)
 |[]=>some []
 |x::r=>(f x.type).bind fun a=>(TC f r).bind fun b=>some (a++b)
def TD(l:List TypeId):Nat→List TypeId
 |0=>[]
 |n+1=>l++TD l n
def Ec(P:Program):Nat→TypeId→Option (List TypeId)
 |0,_=>none
 |d+1,t=>match P.underlying t with
  |some (.struct fs)=>TC (Ec P d) fs.toList
  |some (.array n e)=>(Ec P d e).bind fun l=>some (TD l n)
  |some _=>some [t]
  |none=>none
def vR(n:Nat)(args:List V)(f:Fr):Fr:=fun t=>bif Nat.blt t n then args.getD t .top else f (t-n)
def wL(n:Nat)(f:Fr):Fr:=fun t=>f (t+n)
def TE:V→Bool
 |.iq=>true
 |_=>false
def ui(site j:Nat):Nat:=site+(j+1)*1606938044258990275541962092341162602522202993782792835301376
def yj(E:Env){R:Type}(site:Nat):List TypeId→Nat→Fr→Mem→(Fr→Mem→Option R)→Option R
 |[],_,F,m,k=>k F m
 |t::ts,j,F,m,k=>match F j with
  |.iq=>match E.P.underlying t with
   |some (.slice e)=>if 0<aO E.P e then fresh false (ui site j) (.arr (aO E.P e) e []) F m fun F m _=>yj E site ts (j+1) (gp F j (.os (ui site j))) m k else none
   |_=>none
  |_=>yj E site ts (j+1) F m k
def adA(E:Env)(t:TypeId):Bool:=match E.P.underlying t with|some (.slice _)=>true|_=>false
def Iv(f:Fr):Option Operand→Bool
 |none=>true
 |some x=>match bC E f x with|.pv (.int _ _)=>true|_=>false
noncomputable def sW(n:Nat)(g:Nat→Option R):Option R:= @dite _ (∃r,∀i,i<n→g i=some r) (Classical.propDecidable _) (fun h=>some (Classical.choose h)) fun _=>none
def MJ(site:Nat)(t:TypeId)(x:V)(f:Fr)(m:Mem)(k:V→Fr→Mem→Option R):Option R:=
 match E.P.underlying t with
 |some (.map kt _)=>match x with
  |.om id=>match m id with
   |some (.map wE es)=>if wE=kt then fresh false site (.iter t es none) (eN id f) (bg (bD id m) id) fun f m _=>k (.it site) f m else none
   |_=>none
  |_=>none
 |_=>none
noncomputable def TF(x:V)(f:Fr)(m:Mem)(k:V→Fr→Mem→Option R):Option R:=
 match x with
 |.it id=>match m id with
  |some (.iter t es _)=>match E.P.underlying t with
   |some (.map kt et)=>if es.isEmpty=true then k (.aP [.pv (.bool false)]) f m else sW es.length fun i=>(es[i]?).bind fun e=>iu E kt e.1 fun a=>iu E et e.2 fun b=>k (.aP [.pv (.bool true),.pv a,.pv b]) f (ao m id (.iter t (es.eraseIdx i) (some (a,b))))
   |_=>none
  |_=>none
 |_=>none
def MK(x:V)(m:Mem)(k:V→Mem→Option R):Option R:=
 match x with
 |.it id=>match m id with
  |some (.iter t es (some (a,b)))=>k (.aP [.pv a,.pv b]) (ao m id (.iter t es none))
  |_=>none
 |_=>none
def ML:Op→Bool
 |.range .. =>true
 |.next .. =>true
 |.entry .. =>true
 |_=>false
def vS(g:FuncId):FuncId:=bif Nat.blt g D4 then g else g-D4
def zC(g:FuncId)(caps args:List V):List V:=bif Nat.blt g D4 then args++caps else caps++args
noncomputable def cr(draw:Bool)(site:Nat)(o:Oper)(f:Fr)(m:Mem)(k:V→Fr→Mem→bq→Option R):Option R:=
 match o.op with
 |.move x=>k (bC E f x) f m []
 |.assign x=>match bC E f x with
  |.iq=>match E.P.underlying o.type with
   |some (.slice e)=>if 0<aO E.P e then fresh draw site (.arr (aO E.P e) e []) f m fun f m ft=>k (.os site) f m ft else none
   |_=>k .iq f m []
  |v=>k v f m []
 |.pick c a b=>match bC E f c with
  |.pv (.bool t)=>if t then k (bC E f a) f m []else k (bC E f b) f m []
  |_=>none
 |.alloc t=>match cY E t with
  |some cs=>bif E.DJ site then(match E.P.underlying t,qF pvO cs with
   |some (.array n e),some ps=>if ax E.P e=true∧n*aO E.P e=aO E.P t∧0<aO E.P e∧n≤16777216 then fresh draw site (.arr (aO E.P e) e (fk (aO E.P e) n (.agg ps))) f m fun f m ft=>k (.oe site 0 0) f m ft else none
   |_,_=>none)
   else if !draw&&adA E t then yj E site [t] 0 (vR cs.length cs f) m fun F m=>fresh false site (.box ((List.range cs.length).map F)) (wL cs.length F) m fun f m ft=>k (.op site 0) f m ft
   else fresh draw site (.box cs) f m fun f m ft=>k (.op site 0) f m ft
  |none=>none
 |.box t x=>match toCells (aO E.P t) (bC E f x)with
  |some cs=>if !draw&&cs.any TE then(match Ec E.P 8 t with
   |some ts=>if ts.length=cs.length then yj E site ts 0 (vR cs.length cs f) m fun F m=>fresh false site (.box ((List.range cs.length).map F)) (wL cs.length F) m fun f m ft=>k (.op site 0) f m ft else none
   |none=>none)else fresh draw site (.box cs) f m fun f m ft=>k (.op site 0) f m ft
  |none=>none
 |.build t parts=>BZ E t (parts.toList.map fun(i,x)=>(i,bC E f x)) fun v=>k v f m []
 |.buildSlice t len parts=>match E.P.underlying t with
  |some (.slice e)=>if OX E e then(match Ea 0 (parts.toList.map fun(i,x)=>(i,bC E f x))with
   |some cs=>if parts.size=len∧aO E.P e=1∧len≤16777216∧(cY E e).isSome=true then fresh draw site (.box cs) f m fun f m ft=>k (.os site) f m ft else none
   |none=>none)
   else if E.DJ (site+1000000000000000000000000000000)then(match eW cM (aO E.P e) (ax E.P e) 0 (parts.toList.map fun(i,x)=>(i,bC E f x))with
   |some (es,_)=>if es.length=len∧0<aO E.P e∧len*aO E.P e≤16777216∧(cY E e).isSome=true then k (.pv (.rs (aO E.P e) es)) f m []else none
   |none=>none)
   else match eW (if draw then cM else m) (aO E.P e) (ax E.P e) 0 (parts.toList.map fun(i,x)=>(i,bC E f x))with
   |some (es,m1)=>if es.length=len∧0<aO E.P e∧len*aO E.P e≤16777216∧(cY E e).isSome=true then fresh draw site (.arr (aO E.P e) e es) f (if draw then m else m1) fun f m ft=>k (.os site) f m ft else none
   |none=>none
  |_=>none
 |.load t a=>qx E (E.DJ site) t (bC E f a) m fun v ft=>k v f m ft
 |.store t a x=>tl E draw t (bC E f a) (bC E f x) m fun m ft=>k .top f m ft
 |.nilCheck x=>match bC E f x with
  |.pv (.rp cs)=>k (.pv (.rp cs)) f m []
  |.op id off=>k (.op id off) f m []
  |.oe id i off=>k (.oe id i off) f m []
  |.Ar id i off s j off2=>k (.Ar id i off s j off2) f m []
  |.fn g cs=>k (.fn g cs) f m []
  |.pv (.fn g cs)=>k (.pv (.fn g cs)) f m []
  |_=>none
 |.binOp op t x y _=>match bC E f x,bC E f y with
  |.pv (.rs _ es),.iq=>if draw then none else MH E op t es fun b=>k (.pv (.bool b)) f m [(true,0)]
  |a,b=>J8 E op t y a b fun p=>k (.pv p) f m []
 |.unOp op _ x=>xun op (bC E f x) fun p=>k (.pv p) f m []
 |.convert s d x=>BW E s d (bC E f x) m fun p ft=>k (.pv p) f m ft
 |.makeFunc (.func g) first caps=>bif Nat.blt g D4 then(if first.isEmpty then k (.fn g (caps.toList.map (bC E f))) f m []else if caps.isEmpty then k (.fn (g+D4) (first.toList.map (bC E f))) f m []else none)else none
 |.makeMap t hint=>if Iv E f hint=true then match E.P.underlying t with
  |some (.map kt et)=>if(sU E.P kt).isSome then(if E.DJ site then(match E.P.underlying et with
   |some (.slice e)=>fresh draw site (.fa kt e []) f m fun f m ft=>k (.om site) f m ft
   |_=>none)
   else fresh draw site (.map kt []) f m fun f m ft=>k (.om site) f m ft)else none
  |_=>none
  else none
 |.makeSlice t l c=>ri E draw site t (bC E f l) (bC E f c) f m k
 |.slice t x lo hi mx=>uX E t (bC E f x) (lo.map (bC E f)) (hi.map (bC E f)) (mx.map (bC E f)) m fun v ft=>k v f m ft
 |.fieldAddr s x j=>kc E s (bC E f x) j fun v=>k v f m []
 |.field s x j=>D9 E s (bC E f x) j fun v=>k v f m []
 |.indexAddr t x ix=>cX E t (bC E f x) (bC E f ix) m fun v ft=>k v f m ft
 |.index t x ix=>BX E t (bC E f x) (bC E f ix) fun v=>k v f m []
 |.lookup t x ix ok=>if E.DJ site&& !ok then Ka E site t (bC E f x) (bC E f ix) m fun v m ft=>k v f m ft else uY E t (bC E f x) (bC E f ix) ok m fun v ft=>k v f m ft
 |.mapUpdate t x key v=>oC E draw t (bC E f x) (bC E f key) (bC E f v) m fun m ft=>k .top f m ft
 |.insert t x key v=>oC E draw t (bC E f x) (bC E f key) (bC E f v) m fun m ft=>k .top f m ft
 |.range t x=>if draw then none else MJ E site t (bC E f x) f m fun v f m=>k v f m [(true,0)]
 |.next x s=>if draw||s then none else TF E (bC E f x) f m fun v f m=>k v f m [(true,0)]
 |.entry x=>if draw then none else MK (bC E f x) m fun v m=>k v f m [(true,0)]
 |.extract t i=>match bC E f t with
  |.aP vs=>match vs[i]? with
   |some v=>k v f m []
   |none=>none
  |_=>none
 |.call c=>match c.callee,c.args.toList.map (bC E f)with
  |.builtin .len,[x]=>match c.argTypes.toList with
   |[t]=>J9 E t x m fun v ft=>k v f m ft
   |_=>none
  |.builtin .append,[s,x]=>match c.argTypes.toList with
   |[t,t']=>Ax E draw site t t' s x f m fun v f m=>k v f m [(true,0)]
   |_=>none
  |.builtin .copy,[d,x]=>match c.argTypes.toList with
   |t::_=>Kb E t d x m fun v m ft=>k v f m ft
   |_=>none
  |.builtin .clear,[x]=>match c.argTypes.toList with
   |t::_=>Eb E t x m fun v m ft=>k v f m ft
   |_=>none
  |.builtin .min,[a,b]=>Kc a b fun p=>k (.pv p) f m []
  |.builtin .max,[a,b]=>CI a b fun p=>k (.pv p) f m []
  |.builtin .max,[a,b,c,d]=>Ke a b c d fun p=>k (.pv p) f m []
  |.value (.func g),args=>vQ E draw site g args f m k
  |.value (.tmp t),args=>match bC E f (.tmp t)with
   |.fn g caps=>vQ E draw site (vS g) (zC g caps args) f m k
   |.pv (.fn g caps)=>vQ E draw site (vS g) (zC g (caps.map .pv) args) f m k
   |.yl id=>if draw then none else E.yl R E.fn.ntmps site id args f m fun v f m=>k v f m [(true,0)]
   |_=>none
  |_,_=>none
 |_=>none
noncomputable def Kf(draw:Bool)(site:Nat)(o:Oper)(f:Fr)(m:Mem)(k:V→Fr→Mem→bq→Option R):Option R:=
 match(bif draw then none else bif E.DJ site then zB E site o f m else none)with
 |some sp=>xsp E site sp f m k
 |none=>cr E draw site o f m k
def fe(o:Oper):Bool:=
 match o.op with
 |.move _|.assign _|.pick .. |.load .. |.nilCheck _|.binOp .. |.unOp .. |.convert .. |.slice .. |.fieldAddr .. |.field .. |.indexAddr .. |.index .. |.lookup .. |.extract .. |.build .. =>true
 |.call {callee:=.builtin .len,.. }|.call {callee:=.builtin .min,.. }|.call {callee:=.builtin .max,.. }=>true
 |.call {callee:=.value _,.. }=>true
 |_=>false
def Ay:bq→Bool
 |[]=>true
 |(w,_)::r=> !w&&Ay r
abbrev Log:=List (Nat×Bool×Nat)
def Ee(o:Oper)(j:Nat):Bool:=o.after.toList.any fun e=>Region.binds .any e&&Nat.beq e.on j
mutual
def V.ids:V→List Nat
 |.agg cs=>Kg cs
 |.aP cs=>Kg cs
 |.fn _ cs=>Kg cs
 |.os j=>[j]
 |.fL j _ _=>[j]
 |.oe j _ _=>[j]
 |.om j=>[j]
 |.wI j _ _=>[j]
 |.Ar j _ _ _ _ _=>[j]
 |.op j _=>[j]
 |.yl j=>[j]
 |.it j=>[j]
 |_=>[]
def Kg:List V→List Nat
 |[]=>[]
 |v::r=>v.ids++Kg r
end
def Ef:Option bH→List Nat
 |some (.box cs)=>Kg cs
 |_=>[]
def yn(n:Nat):Nat:=n+2037035976334486086268445688409378161051468393665936250636140449354381299763336706183397376
def Iw(m m':Mem):bq→List Nat
 |[]=>[]
 |x::r=>Ef (m x.2)++Ef (m' x.2)++Iw m m' r
def DK(ops:Array Oper)(o:Oper)(f:Fr)(m m':Mem)(v:V)(ft:bq):List Nat:=Kg ((o.looksAt ops).map f)++v.ids++Iw m m' ft
def cu(E:Env)(d:Option Nat):Nat:=match d with|some d=>E.fid*4096+d|none=>E.fid*4096+4095
def isApp(E:Env)(o:Oper):Bool:=E.DJ (cu E o.dst)||match o.op with|.call {callee:=.builtin .append,.. }=>true|_=>false
def va(E:Env)(f:Fr)(m:Mem)(o:Oper):Option (Nat×bq):=
 match o.op with
 |.call c=>match c.callee,c.args.toList.map (bC E f),c.argTypes.toList with
  |.builtin .append,[.os id,x],[t,_]=>match E.P.underlying t with
   |some (.slice e)=>match fl m (aO E.P e) x with
    |some (_,rd)=>if x.has id then none else some (id,rd)
    |none=>none
   |_=>none
  |_,_,_=>none
 |_=>none
def Ix(E:Env)(f:Fr)(m:Mem)(o:Oper):Option (Kl×bq):=
 match(bif E.DJ (cu E o.dst)then zB E (cu E o.dst) o f m else none)with
 |some sp=>some (sp.info (cu E o.dst))
 |none=>match va E f m o with
  |some (id,rd)=>some ([(true,id)],(true,id)::rd)
  |none=>none
def reach(ops:Array Oper):Nat→Oper→Nat→Bool
 |0,o,j=>Ee o j
 |n+1,o,j=>Ee o j||o.after.toList.any fun e=>Region.binds .any e&&match ops[e.on]? with|some p=>reach ops n p j|none=>false
def OY(ops:Array Oper)(o:Oper)(w:Bool)(id:Nat):Log→Bool
 |[]=>true
 |(j,w',sI)::r=>(!(Nat.beq id sI)||(!w&& !w')||reach ops 4 o j)&&OY ops o w id r
def B1(ops:Array Oper)(o:Oper)(lg:Log):bq→Bool
 |[]=>true
 |(w,id)::r=>OY ops o w id lg&&B1 ops o lg r
def DL(ops:Array Oper)(o:Oper)(id:Nat):Log→Bool
 |[]=>true
 |(j,_,n)::r=>(!(Nat.beq n (yn id))||reach ops 4 o j)&&DL ops o id r
def yo(ops:Array Oper):List (Nat×Oper)→Oper→Bool
 |[],_=>true
 |(j,p)::r,o=>(p.apart ops o||reach ops 4 o j)&&yo ops r o
def oV(ops:Array Oper):List (Nat×Oper)→List (Nat×Oper)→Bool
 |_,[]=>true
 |done,(i,o)::r=>o.after.toList.all (fun e=> !(Region.binds .any e)||Nat.blt e.on i)&&yo ops done o&&oV ops ((i,o)::done) r
def guardOf(o:Oper)(A:List (Nat×Bool)):Option (Nat×Bool):=
 match o.guard with
 |none=>none
 |some g=>if A.elem g then none else some g
def CJ(A:List (Nat×Bool)):List (Nat×Oper)→List (Nat×Oper)×List (Nat×Oper)
 |[]=>([],[])
 |x::r=>match guardOf x.2 A with
  |some _=>let(a,b):=CJ A r;(x::a,b)
  |none=>([],x::r)
def na(f:Fr):List (Nat×Oper)→Fr
 |[]=>f
 |x::r=>na (jt f x.2.dst .top) r
def wM(g:Nat×Bool):List Nat→List (Nat×Oper)→Bool
 |_,[]=>true
 |done,x::r=>(match x.2.guard with
  |some h=>(Nat.beq h.1 g.1&&(h.2==g.2))||done.elem h.1
  |none=>false)&&wM g (x.1::done) r
def blind(ops:Array Oper)(body:List (Nat×Oper))(o:Oper):Bool:=body.all fun y=>match y.2.dst with
  |some d=> !((o.looksAt ops).elem d)
  |none=>true
def G7:Bool→Bool→Bool
 |true,b=>b
 |false,b=> !b
def iW(f:Fr):List (Nat×Oper)→Fr
 |[]=>f
 |x::r=>iW (jt f x.2.dst (.aP [])) r
def y8:V→Option Bool
 |.pv (.bool b)=>some b
 |_=>none
end
def wN(E:Env)(o:Oper):Bool:=match o.dst with|some d=>Nat.blt d E.fn.ntmps|none=>true
def Iy(E:Env)(g:FuncId):Bool:=match E.P.funcs[g]? with|some fn=>fn.resultTypes.toList.all (uZ E)|none=>false
def Yv(E:Env)(f:Fr)(body:List (Nat×Oper))(o:Oper):Bool:=
 fe o&&match o.op with
 |.call {callee:=.value (.func g),.. }=>(E.ctx g).isSome&&Iy E g
 |.call {callee:=.value (.tmp t),.. }=>match(match body.find? (fun x=>x.2.dst==some t)with
  |some (_,p)=>(match p.op with
   |.move y=>bC E f y
   |.assign y=>bC E f y
   |_=>.top)
  |none=>bC E f (.tmp t))with
  |.fn g _=>(E.ctx (vS g)).isSome&&Iy E (vS g)
  |.pv (.fn g _)=>(E.ctx (vS g)).isSome&&Iy E (vS g)
  |.yl _=>false
  |_=>true
 |_=>true
noncomputable def bZ(E:Env)(ops:Array Oper)(mode:Nat):(fuel:Nat)→(R:Type)→List (Nat×Bool)→List (Nat×Oper)→Fr→Mem→Log→(Fr→Mem→Option R)→Option R
 |0,_,_,_,_,_,_,_=>none
 |_+1,_,_,[],f,m,_,k=>k f m
 |fuel+1,R,A,(i,o)::rest,f,m,lg,k=>
  match guardOf o A with
  |none=>
   if wN E o then
    match(bif Nat.beq mode 2 then Ix E f m o else none)with
    |some (kl,ft)=>
     if B1 ops o lg ft&&kl.all (fun x=>DL ops o x.2 lg)&&rest.all (fun x=>reach ops 4 x.2 i)then Kf E false (cu E o.dst) o f m fun v f1 m1 _=>bZ E ops mode fuel R A rest (jt f1 o.dst v) m1 (ft.map (fun x=>(i,x))++lg) k
     else none
    |none=>Kf E (Nat.beq mode 1||Nat.beq mode 2) (cu E o.dst) o f m fun v f1 m1 ft=>
      if Nat.beq mode 2 then(if B1 ops o lg ft then bZ E ops mode fuel R A rest (jt f1 o.dst v) m1 ((bif ops.toList.any (isApp E)then(DK ops o f m m1 v ft).map (fun n=>(i,false,yn n))else[])++(ft.map (fun x=>(i,x))++lg)) k else none)
      else if Nat.beq mode 0 then bZ E ops mode fuel R A rest (jt f1 o.dst v) m1 lg k
      else if Ay ft then bZ E ops mode fuel R A rest (jt f1 o.dst v) m1 lg k
      else none
   else none
  |some (j,Dy)=>
   match((ops[j]?).bind (·.dst))with
   |some tj=>match bC E f (.tmp tj)with
    |.pv (.bool b)=>
     match CJ A ((i,o)::rest)with
     |(body,Kh)=>
     if Nat.beq mode 0&& !(body.all fun x=>Yv E f body x.2)then
      (if(body.all fun x=>wN E x.2)&&wM (j,Dy) [] body&&((i,o)::rest).all (fun x=> !(x.2.dst==some tj))then
       bif G7 Dy b then bZ E ops mode fuel R ((j,Dy)::A) ((i,o)::rest) (gp f tj (.pv (.bool Dy))) m lg k
       else bZ E ops mode fuel R A Kh (iW (gp f tj (.pv (.bool !Dy))) body) m lg k
      else none)
     else match Kh with
     |(_,p)::nb=>
      match p.op with
      |.pick (.tmp c) x y=>
       if Nat.beq c tj&&(guardOf p A).isNone&&body.all (fun x=>fe x.2&&wN E x.2&& !(x.2.dst==some tj))&&wM (j,Dy) [] body&&nb.all (fun x=>blind ops body x.2)&&wN E p&& !(Nat.beq mode 2)then
        (match Dy with
         |true=>bif b then bZ E ops (bif Nat.beq mode 0 then 3 else mode) fuel Bool ((j,Dy)::A) body f m lg (fun f _=>y8 (bC E f x))else y8 (bC E (na f body) y)
         |false=>bif b then y8 (bC E (na f body) x)else bZ E ops (bif Nat.beq mode 0 then 3 else mode) fuel Bool ((j,Dy)::A) body f m lg (fun f _=>y8 (bC E f y))).bind fun r=>
        bZ E ops mode fuel R A nb (jt (na f body) p.dst (.pv (.bool r))) m lg k
       else none
      |_=>none
     |[]=>none
    |_=>none
   |none=>none
inductive Ex where
 |normal
 |exit (id:Nat)
 |ret
def Ki{R:Type}(body:Fr→Mem→(Fr→Mem→Option R)→Option R):Nat→Fr→Mem→Option R
 |0,_,_=>none
 |n+1,f,m=>body f m (Ki body n)
def yp:Code→Nat
 |.region id _ _=>id
 |.seq a _=>yp a
 |.cond _ a _=>yp a
 |.block _ b=>yp b
 |.loop b=>yp b
 |.scope b=>yp b
 |_=>0
def OZ:List Sh→Type→Type
 |[],T=>T
 |.raw::r,T=>PV×OZ r T
 |.int _::r,T=>Int×OZ r T
 |.bool::r,T=>Bool×OZ r T
 |.str::r,T=>Bytes×OZ r T
 |.rs _::r,T=>List PV×OZ r T
 |.rp _::r,T=>PV×OZ r T
 |.fs _::r,T=>List PV×OZ r T
 |.row _ _::r,T=>Int×OZ r T
 |.own _::r,T=>OZ r T
def JP:List (Nat×CF)→Type
 |[]=>Unit
 |(_,.box cs)::r=>OZ cs (JP r)
 |(_,.arr _ _)::r=>List PV×JP r
 |(_,.qT _ _)::r=>List PV×JP r
 |(_,.map _)::r=>List (PV×PV)×JP r
 |(_,.nest _ _)::r=>List PV×JP r
 |(_,.fa _ _)::r=>List (PV×PV)×JP r
 |(_,.loop)::r=>JP r
 |(_,.busy)::r=>JP r
 |(_,.iter _)::r=>List (PV×PV)×JP r
def G4.j4(T:G4):List Sh:=T.bO.map Prod.snd
abbrev G4.ty(T:G4):Type:=OZ T.j4 (JP T.zA)
mutual
def V.same:V→V→Bool
 |.op i o,.op j p=>Nat.beq i j&&Nat.beq o p
 |.oe i a o,.oe j b p=>Nat.beq i j&&Nat.beq a b&&Nat.beq o p
 |.os i,.os j=>Nat.beq i j
 |.om i,.om j=>Nat.beq i j
 |.yl i,.yl j=>Nat.beq i j
 |.it i,.it j=>Nat.beq i j
 |.iq,.iq=>true
 |.pv .q8,.pv .q8=>true
 |.pv .uU,.pv .uU=>true
 |.pv (.int q x),.pv (.int q' y)=>decide (q=q')&&decide (x=y)
 |.fn f cs,.fn g ds=>Nat.beq f g&&G8 cs ds
 |_,_=>false
def G8:List V→List V→Bool
 |[],[]=>true
 |a::as,b::bs=>a.same b&&G8 as bs
 |_,_=>false
end
section
variable {R:Type}
def j5{T:Type}:(j4:List Sh)→List V→T→(OZ j4 T→Option R)→Option R
 |[],[],t,k=>k t
 |.int q::j4,.pv (.int q' n)::vs,t,k=>if q'=q then j5 j4 vs t (fun r=>k (n,r))else none
 |.raw::j4,.pv p::vs,t,k=>j5 j4 vs t (fun r=>k (p,r))
 |.bool::j4,.pv (.bool b)::vs,t,k=>j5 j4 vs t (fun r=>k (b,r))
 |.str::j4,.pv (.str s)::vs,t,k=>j5 j4 vs t (fun r=>k (s,r))
 |.rs sz::j4,.pv (.rs Gp es)::vs,t,k=>if Gp=sz then j5 j4 vs t (fun r=>k (es,r))else none
 |.rp n::j4,.pv (.rp cs)::vs,t,k=>if cs.length=n then j5 j4 vs t (fun r=>k (.agg cs,r))else none
 |.fs s::j4,.pv p::vs,t,k=>(Yu s p).bind fun ls=>j5 j4 vs t (fun r=>k (ls,r))
 |.row id off::j4,.wI sI i vb::vs,t,k=>if sI=id∧vb=off then j5 j4 vs t (fun r=>k ((i:Int),r))else none
 |.own v::j4,u::vs,t,k=>if v.same u then j5 j4 vs t k else none
 |_,_,_,_=>none
def uj(m:Mem):(bs:List (Nat×CF))→(JP bs→Option R)→Option R
 |[],k=>k ()
 |(id,.box cs)::r,k=>match m id with
  |some (.box vs)=>uj m r fun t=>j5 (T:=JP r) cs vs t k
  |_=>none
 |(id,.arr sz et)::r,k=>match m id with
  |some (.arr Gp Gq es)=>if Gp=sz∧Gq=et then uj m r fun t=>k (es,t)else none
  |_=>none
 |(id,.qT sz et)::r,k=>match m id with
  |some (.qT Gp Gq es)=>if Gp=sz∧Gq=et then uj m r fun t=>k (es,t)else none
  |_=>none
 |(id,.map kt)::r,k=>match m id with
  |some (.map wE es)=>if wE=kt then uj m r fun t=>k (es,t)else none
  |_=>none
 |(id,.nest sz et)::r,k=>match m id with
  |some (.nest Gp Gq es)=>if Gp=sz∧Gq=et then uj m r fun t=>k (es,t)else none
  |_=>none
 |(id,.fa kt e)::r,k=>match m id with
  |some (.fa wE e' es)=>if wE=kt∧e'=e then uj m r fun t=>k (es,t)else none
  |_=>none
 |(id,.loop)::r,k=>match m id with
  |some (.loop .ready)=>uj m r k
  |_=>none
 |(id,.busy)::r,k=>match m id with
  |some (.loop .busy)=>uj m r k
  |_=>none
 |(id,.iter t)::r,k=>match m id with
  |some (.iter t' es none)=>if t'=t then uj m r fun u=>k (es,u)else none
  |_=>none
def Sh.within(M:List Nat):Sh→Bool
 |.own v=>v.within M
 |.row id _=>M.elem id
 |_=>true
def CF.within(M:List Nat):CF→Bool
 |.box cs=>cs.all (·.within M)
 |_=>true
def G4.ok(T:G4):Bool:=T.bO.all (fun x=>x.2.within (T.zA.map (·.1)))&&T.zA.all (fun x=>x.2.within (T.zA.map (·.1)))
def Eg:List Sh→List V→Bool
 |[],[]=>true
 |.raw::j4,.pv _::vs=>Eg j4 vs
 |.int q::j4,.pv (.int q' _)::vs=>decide (q'=q)&&Eg j4 vs
 |.bool::j4,.pv (.bool _)::vs=>Eg j4 vs
 |.str::j4,.pv (.str _)::vs=>Eg j4 vs
 |.rs sz::j4,.pv (.rs Gp _)::vs=>Nat.beq Gp sz&&Eg j4 vs
 |.rp n::j4,.pv (.rp cs)::vs=>Nat.beq cs.length n&&Eg j4 vs
 |.fs s::j4,.pv p::vs=>(Yu s p).isSome&&Eg j4 vs
 |.row id off::j4,.wI sI _ vb::vs=>Nat.beq sI id&&Nat.beq vb off&&Eg j4 vs
 |.own v::j4,u::vs=>v.same u&&Eg j4 vs
 |_,_=>false
def Gv(m:Mem):List (Nat×CF)→Bool
 |[]=>true
 |(id,.box cs)::r=>(match m id with|some (.box vs)=>Eg cs vs|_=>false)&&Gv m r
 |(id,.arr sz _)::r=>(match m id with|some (.arr Gp _ _)=>Nat.beq Gp sz|_=>false)&&Gv m r
 |(id,.qT sz _)::r=>(match m id with|some (.qT Gp _ _)=>Nat.beq Gp sz|_=>false)&&Gv m r
 |(id,.map _)::r=>(match m id with|some (.map _ _)=>true|_=>false)&&Gv m r
 |(id,.nest sz _)::r=>(match m id with|some (.nest Gp _ _)=>Nat.beq Gp sz|_=>false)&&Gv m r
 |(id,.fa _ _)::r=>(match m id with|some (.fa _ _ _)=>true|_=>false)&&Gv m r
 |(id,.loop)::r=>(match m id with|some (.loop .ready)=>true|_=>false)&&Gv m r
 |(id,.busy)::r=>(match m id with|some (.loop .busy)=>true|_=>false)&&Gv m r
 |(id,.iter _)::r=>(match m id with|some (.iter _ _ none)=>true|_=>false)&&Gv m r
def fits(f:Fr)(m:Mem)(T:G4):Bool:=Gv m T.zA&&Eg T.j4 (T.bO.map fun(x:Nat×Sh)=>f x.1)
def enc(T:G4)(f:Fr)(m:Mem)(k:T.ty→Option R):Option R:=if T.ok then uj m T.zA fun t=>j5 (T:=JP T.zA) T.j4 (T.bO.map fun(x:Nat×Sh)=>f x.1) t k else none
end
def sJ{T:Type}:(j4:List Sh)→OZ j4 T→List V×T
 |[],t=>([],t)
 |.int q::j4,x=>let r:=sJ j4 x.2;(.pv (.int q x.1)::r.1,r.2)
 |.raw::j4,x=>let r:=sJ j4 x.2;(.pv x.1::r.1,r.2)
 |.bool::j4,x=>let r:=sJ j4 x.2;(.pv (.bool x.1)::r.1,r.2)
 |.str::j4,x=>let r:=sJ j4 x.2;(.pv (.str x.1)::r.1,r.2)
 |.rs sz::j4,x=>let r:=sJ j4 x.2;(.pv (.rs sz x.1)::r.1,r.2)
 |.rp n::j4,x=>let r:=sJ j4 x.2;(.pv (.rp (aC n x.1))::r.1,r.2)
 |.fs s::j4,x=>let r:=sJ j4 x.2;(.pv (Is s ((List.range s.n).map fun j=>x.1.getD j .bad)).1::r.1,r.2)
 |.row id off::j4,x=>let r:=sJ j4 x.2;(.wI id x.1.toNat off::r.1,r.2)
 |.own v::j4,x=>let r:=sJ (T:=T) j4 x;(v::r.1,r.2)
def gO:(bs:List (Nat×CF))→JP bs→List (Nat×Option bH)
 |[],_=>[]
 |(id,.box cs)::r,x=>let y:=sJ (T:=JP r) cs x;(id,some (.box y.1))::gO r y.2
 |(id,.arr sz et)::r,x=>(id,some (.arr sz et x.1))::gO r x.2
 |(id,.qT sz et)::r,x=>(id,some (.qT sz et x.1))::gO r x.2
 |(id,.map kt)::r,x=>(id,some (.map kt x.1))::gO r x.2
 |(id,.nest sz et)::r,x=>(id,some (.nest sz et x.1))::gO r x.2
 |(id,.fa kt e)::r,x=>(id,some (.fa kt e x.1))::gO r x.2
 |(id,.loop)::r,x=>(id,some (.loop .ready))::gO (r:List (Nat×CF)) x
 |(id,.busy)::r,x=>(id,some (.loop .busy))::gO (r:List (Nat×CF)) x
 |(id,.iter t)::r,x=>(id,some (.iter t x.1 none))::gO r x.2
def rj:List (Nat×Sh)→List V→List (Nat×V)
 |(t,_)::r,v::vs=>(t,v)::rj r vs
 |_,_=>[]
def MM(T:G4)(x:T.ty):Fr:=MG (rj T.bO (sJ (T:=JP T.zA) T.j4 x).1)
def Eh(T:G4)(x:T.ty):Mem:=D3 (gO T.zA (sJ (T:=JP T.zA) T.j4 x).2)
def CK{A:Type}:List (Nat×Nat)→Fr→Mem→(Fr→Mem→A)→A
 |[],f,m,k=>k f m
 |(t,sz)::r,f,m,k=>match f t with
  |.os id=>match m id with
   |some (.arr s et es)=>CK r (gp f t (.pv (.rs s es))) (ao m id (.qT s et es)) k
   |some (.qT s _ es)=>CK r (gp f t (.pv (.rs s es))) m k
   |_=>CK r f m k
  |.iq=>CK r (gp f t (.pv (.rs sz []))) m k
  |_=>CK r f m k
def G9{A:Type}:List (Nat×Nat×Nat)→Mem→(Mem→A)→A
 |[],m,k=>k m
 |(id,j,sz)::r,m,k=>match m id with
  |some (.box cs)=>match cs[j]? with
   |some .iq=>G9 r (ao m id (.box (cs.set j (.pv (.rs sz []))))) k
   |_=>G9 r m k
  |_=>G9 r m k
def CL{A:Type}(P:Program):List (Nat×Nat×Nat×TypeId)→Mem→(Mem→A)→A
 |[],m,k=>k m
 |(id,j,TG,et)::r,m,k=>match m id with
  |some (.box cs)=>match cs[j]? with
   |some .iq=>match m TG with
    |none=>if 0<aO P et then CL P r (ao (ao m TG (.arr (aO P et) et [])) id (.box (cs.set j (.os TG)))) k else CL P r m k
    |some _=>CL P r m k
   |_=>CL P r m k
  |_=>CL P r m k
def Kj{A:Type}:List Nat→Mem→(Mem→A)→A
 |[],m,k=>k m
 |id::r,m,k=>match m id with
  |some (.arr s et es)=>Kj r (ao m id (.nest s et es)) k
  |_=>Kj r m k
def CM{A:Type}:List (Nat×Nat)→Fr→Mem→(Fr→Mem→A)→A
 |[],f,m,k=>k f m
 |(id,j)::r,f,m,k=>match m id with
  |some (.box cs)=>match cs[j]? with
   |some (.fL a 0 len)=>match m a with
    |some (.arr s et es)=>if Nat.beq a id then CM r f m k else CM r (eN a f) (ao (ao (bg (bD a m) a) a (.arr s et (es.take len))) id (.box ((cs.map (sV a)).set j (.os a)))) k
    |_=>CM r f m k
   |_=>CM r f m k
  |_=>CM r f m k
def Ha{A:Type}(P:Program)(T:G4)(f:Fr)(m:Mem)(k:Fr→Mem→A):A:=CM T.ct f m fun f m=>CL P T.bo m fun m=>G9 T.bz m fun m=>Kj T.nz m fun m=>CK T.fz f m k
variable{R:Type}
def Ex.Kk(k1:Fr→Mem→Option R)(k:Ex→Fr→Mem→Option R):Ex→Fr→Mem→Option R
 |.normal,f,m=>k1 f m
 |e,f,m=>k e f m
def Ex.TH(id:Nat)(k:Ex→Fr→Mem→Option R):Ex→Fr→Mem→Option R
 |.exit j,f,m=>if j=id then k .normal f m else k (.exit j) f m
 |e,f,m=>k e f m
def Ex.jmp:Ex→Option Jmp
 |.normal=>none
 |.exit id=>some (.exit id)
 |.ret=>some .ret
def Jmp.ex:Jmp→Ex
 |.ret=>.ret
 |.exit id=>.exit id
def O0(n:Nat)(g f:Fr):Fr:=fun t=>bif Nat.blt t n then g t else f (t-n)
def Ei:List Nat→List V→Fr→Fr
 |p::ps,v::vs,f=>Ei ps vs (gp f p v)
 |_,_,f=>f
def roundOf(as b:Fr→Mem→(Ex→Fr→Mem→Option R)→Option R)(lid n:Nat)(ps:List Nat)(nt:Nat)(args:List V)(F:Fr)(m:Mem)(k:V→Fr→Mem→Option R):Option R:=
 match m lid with
 |some (.loop .ready)=>if args.length=ps.length then
  as (O0 n (Ei ps args (wL nt F)) F) m fun e f m=>match e,m lid with
   |.normal,some (.loop .ready)=>b f (ao m lid (.loop .busy)) fun e f m=>match m lid with
    |some (.loop .busy)=>match e.jmp with
     |none=>k (.pv (.bool true)) (wL n f) (ao m lid (.loop .ready))
     |some j=>k (.pv (.bool false)) (wL n f) (ao m lid (.loop (.done j)))
    |_=>none
   |_,_=>none
  else none
 |_=>none
def abm:V→Option (FuncId×List V)
 |.fn g caps=>bif Nat.blt g D4 then some (g,caps)else none
 |.pv (.fn g caps)=>bif Nat.blt g D4 then some (g,caps.map .pv)else none
 |_=>none
def adB(E:Env)(o:Oper):Bool:=match o.op with
 |.call c=>match c.callee with
  |.value (.func g)=>(E.ctx g).isNone&&(E.own g).isNone
  |_=>false
 |_=>false
def adC(E:Env)(o:Oper):Bool:=match o.op with
 |.call c=>match c.callee with
  |.value (.func g)=>(E.ctx g).isNone&&(E.own g).isSome
  |_=>false
 |_=>false
def Yw(E:Env)(ops:Array Oper):Option Nat:=ops.toList.findIdx? (adB E)
def TI(ops:Array Oper)(p:Nat):Bool:=match ops[p]? with
 |none=>false
 |some o=>o.guard.isNone&&o.after.toList.all (fun e=> !(Region.binds .any e)||Nat.blt e.on p)&&((List.range ops.size).zip ops.toList).all fun x=>bif Nat.blt x.1 p then reach ops 8 o x.1 else Nat.beq x.1 p||reach ops 8 x.2 p
noncomputable def fB:(E:Env)→{R:Type}→Code→Fr→Mem→(Ex→Fr→Mem→Option R)→Option R
 |E,_,.skip,f,m,k=>k .normal f m
 |E,R,.region _ ops draw,f,m,k=>
  if draw then
   match Yw E ops with
   |some p=>if TI ops p&&oV ops [] (((List.range ops.size).zip ops.toList).take p)&&oV ops [] (((List.range ops.size).zip ops.toList).drop (p+1))then
     bZ E ops 2 (ops.size+1) R [] (((List.range ops.size).zip ops.toList).take p) f m [] fun f m=>
     bZ E ops 0 3 R [] ((((List.range ops.size).zip ops.toList).drop p).take 1) f m [] fun f m=>
     bZ E ops 2 (ops.size+1) R [] (((List.range ops.size).zip ops.toList).drop (p+1)) f m [] fun f m=>k .normal f m
    else none
   |none=>
   (if oV ops [] ((List.range ops.size).zip ops.toList)then
    (if ops.toList.all (fun o=>fe o&& !adC E o)then bZ E ops 1 (ops.size+1) R [] ((List.range ops.size).zip ops.toList) f m [] fun f m=>k .normal f m
    else bZ E ops 2 (ops.size+1) R [] ((List.range ops.size).zip ops.toList) f m [] fun f m=>k .normal f m)
   else none)
  else bZ E ops 0 (ops.size+ops.size+1) R [] ((List.range ops.size).zip ops.toList) f m [] fun f m=>k .normal f m
 |E,R,.seq a b,f,m,k=>fB E a f m (Ex.Kk (fun f m=>fB E b f m k) k)
 |E,R,.cond c a b,f,m,k=>match c,bC E f c with
  |.tmp x,.pv (.bool t)=>if t then fB E a (gp f x (.pv (.bool true))) m k else fB E b (gp f x (.pv (.bool false))) m k
  |_,_=>none
 |E,R,.block id b,f,m,k=>fB E b f m (Ex.TH id k)
 |E,R,.loop b,f,m,k=>match(E.hint E.fid (yp b)).find? (fun T=>Ha E.P T f m fun f m=>fits f m T)with
  |some T=>Ha E.P T f m fun f m=>enc T f m (E.lp.run fun s rec=>fB E b (MM T s) (Eh T s) (Ex.Kk (fun f m=>Ha E.P T f m fun f m=>enc T f m rec) k))
  |none=>Ki (fun f m rec=>fB E b f m (Ex.Kk rec k)) E.u f m
 |E,R,.exit id,f,m,k=>k (.exit id) f m
 |E,R,.ret,f,m,k=>k .ret f m
 |E,R,.label _,f,m,k=>k .normal f m
 |E,R,.scope b,f,m,k=>fB E b f m k
 |E,R,.rangeFunc g ps as b,f,m,k=>if E.rdb then none else match ps.toList with
  |p0::_=>fresh true (cu E (some p0)) (.loop .ready) f m fun f m _=>match abm (bC E f g)with
   |some (gid,caps)=>E.rng R gid (cu E (some p0)*4096+gid) (fun _ nt site id args F m k=>bif Nat.beq id (cu E (some p0))then
     roundOf (fB {E with fid:=site*4096+E.fid%4096,yl:=BS,rdb:=true} as) (fB {E with fid:=site*4096+E.fid%4096,yl:=BS,rdb:=true} b) (cu E (some p0)) E.fn.ntmps ps.toList nt args F m k
     else none)
    (.yl (cu E (some p0))::caps) f m fun _ f m=>match m (cu E (some p0))with
     |some (.loop .ready)=>k .normal (eN (cu E (some p0)) f) (bg (bD (cu E (some p0)) m) (cu E (some p0)))
     |some (.loop (.done j))=>k j.ex (eN (cu E (some p0)) f) (bg (bD (cu E (some p0)) m) (cu E (some p0)))
     |_=>none
   |_=>none
  |[]=>none
 |_,_,_,_,_,_=>none
def Az(E:Env){R:Type}(f:Fr)(m:Mem):List ResultVar→(List V→Option R)→Option R
 |[],k=>k []
 |.tmp t::rs,k=>Az E f m rs fun vs=>k (bC E f (.tmp t)::vs)
 |.cell a t::rs,k=>qx E false t (bC E f (.tmp a)) m fun v _=>Az E f m rs fun vs=>k (v::vs)
def TJ(E:Env)(rs:List ResultVar)(f:Fr)(m:Mem):Option PV:=Az E f m rs fun vs=>match vs with
  |[v]=>lx m eB v
  |vs=>(qF (lx m eB) vs).bind fun ps=>some (.aP ps)
section
variable {R:Type} (E:Env)
def Iz(t:TypeId)(p:PV)(k:PV→Option R):Option R:=
 match E.P.underlying t with
 |some (.int _)=>iu E t p k
 |some .bool=>iu E t p k
 |some .string=>iu E t p k
 |some (.slice _)=>iu E t p k
 |some (.map _ _)=>iu E t p k
 |_=>k p
def qG:List TypeId→List PV→(List PV→Option R)→Option R
 |t::ts,p::ps,k=>Iz E t p fun q=>qG ts ps fun qs=>k (q::qs)
 |_,ps,k=>k ps
def DM(n:Nat)(p:PV)(a:Option R)(b:PV→Option R):Option R:=
 match p with
 |.q8=>a
 |.rp cs=>if n≤cs.length then b (.agg cs)else none
 |_=>none
def TK(t:TypeId)(p:PV)(k:PV→Option R):Option R:=
 match E.P.underlying t with
 |some (.struct _)=>(asAgg (aO E.P t) p).bind fun _=>match Ec E.P 8 t with
  |some ts=>qG E ts (aC (aO E.P t) p) fun cs=>k (.agg cs)
  |none=>none
 |some (.array _ _)=>(asAgg (aO E.P t) p).bind fun _=>match Ec E.P 8 t with
  |some ts=>qG E ts (aC (aO E.P t) p) fun cs=>k (.agg cs)
  |none=>none
 |some (.pointer e)=>DM (aO E.P e) p (k .q8) fun q=>match Ec E.P 8 e with
  |some ts=>qG E ts (aC (aO E.P e) q) fun cs=>k (.rp cs)
  |none=>none
 |_=>Iz E t p k
def zD:List TypeId→List PV→(List PV→Option R)→Option R
 |t::ts,p::ps,k=>TK E t p fun q=>zD ts ps fun qs=>k (q::qs)
 |_,ps,k=>k ps
end
def Ej(args:List V):Fr:=fun t=>args.getD t .top
noncomputable def DN(E:Env)(args:List V)(f:Fr)(m:Mem)(k:V→Fr→Mem→Option R):Option R:=
 match E.fn.body with
 |some c=>if args.length≤E.fn.ntmps then fB E c (vR E.fn.ntmps args f) m (fun e f m=>match e with
  |.exit _=>none
  |_=>Az E f m E.fn.results.toList fun vs=>match vs with
   |[v]=>k v (wL E.fn.ntmps f) m
   |vs=>k (.aP vs) (wL E.fn.ntmps f) m)else none
 |none=>none
def abn(E:Env)(f:Fr)(m:Mem):Option PV:=
 match E.fn.resultTypes.toList with
 |[t]=>match E.P.underlying t with
  |some (.slice e)=>Az E f m E.fn.results.toList fun vs=>match vs with
   |[.os id]=>match m id with
    |some (.arr sz et es)=>if sz=aO E.P e∧et=e then some (.rs sz es)else none
    |_=>none
   |[.fL id 0 len]=>match m id with
    |some (.arr sz et es)=>if sz=aO E.P e∧et=e then some (.rs sz (es.take len))else none
    |_=>none
   |_=>none
  |_=>none
 |_=>none
noncomputable def IA(E:Env)(args:List PV):Option PV:=
 match E.fn.body with
 |some c=>if args.length≤E.fn.ntmps then zD E E.fn.params.toList args fun vs=>fB E c (Ej (vs.map .pv)) (fun _=>none) (fun e f m=>match e with
  |.exit _=>none
  |_=>abn E f m)else none
 |none=>none
noncomputable def ee(E:Env)(args:List PV):Option PV:=
 match E.fn.body with
 |some c=>if args.length≤E.fn.ntmps then zD E E.fn.params.toList args fun vs=>fB E c (Ej (vs.map .pv)) (fun _=>none) (fun e f m=>match e with
  |.normal=>TJ E E.fn.results.toList f m
  |.ret=>TJ E E.fn.results.toList f m
  |.exit _=>none)else none
 |none=>none
end Go.Ab
