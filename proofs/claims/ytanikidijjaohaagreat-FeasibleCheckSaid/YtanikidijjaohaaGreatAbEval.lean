import Derived.Test.YtanikidijjaohaaGreatAbDefs
import Derived.Deep.Quiet
set_option linter.unusedVariables false
set_option linter.unusedSimpArgs false
namespace Go.Ab
inductive FS where
 |raw
 |fn (g:FuncId) (caps:List FS)
 |ptr (cells:List FS)
mutual
def VN:FS→PV→Option (List PV)
 |.raw,p=>some [p]
 |.fn g cs,.fn g' qs=>if g'=g then Ib cs qs else none
 |.ptr cs,.rp qs=>Ib cs qs
 |_,_=>none
def Ib:List FS→List PV→Option (List PV)
 |[],[]=>some []
 |s::ss,p::ps=>(VN s p).bind fun a=>(Ib ss ps).bind fun b=>some (a++b)
 |_,_=>none
end
mutual
def Gx:FS→List PV→PV×List PV
 |.raw,[]=>(.bad,[])
 |.raw,p::r=>(p,r)
 |.fn g cs,l=>(.fn g (AV cs l).1,(AV cs l).2)
 |.ptr cs,l=>(.rp (AV cs l).1,(AV cs l).2)
def AV:List FS→List PV→List PV×List PV
 |[],l=>([],l)
 |s::ss,l=>((Gx s l).1::(AV ss (Gx s l).2).1,(AV ss (Gx s l).2).2)
end
mutual
def FS.n:FS→Nat
 |.raw=>1
 |.fn _ cs=>nFs cs
 |.ptr cs=>nFs cs
def nFs:List FS→Nat
 |[]=>0
 |s::ss=>s.n+nFs ss
end
inductive Sh where
 |raw
 |int (q:IntKind)
 |bool
 |str
 |rs (sz:Nat)
 |rp (n:Nat)
 |fs (s:FS)
 |row (id off:Nat)
 |own (v:V)
inductive Ss where
 |box (cs:List Sh)
 |arr (sz:Nat) (et:TypeId)
 |pt (sz:Nat) (et:TypeId)
 |map (kt:TypeId)
 |nest (sz:Nat) (et:TypeId)
 |eY (kt e:TypeId)
 |loop
 |busy
 |iter (t:TypeId)
structure eW where
 ax:List (Nat×Sh)
 bE:List (Nat×Ss)
 fz:List (Nat×Nat):=[]
 bz:List (Nat×Nat×Nat):=[]
 bo:List (Nat×Nat×Nat×TypeId):=[]
 nz:List Nat:=[]
 ct:List (Nat×Nat):=[]
structure bd where
 run:{S R:Type}→(S→(S→Option R)→Option R)→S→Option R
 room:Nat→Bool
 th:∀n,room n=true→(n:Int)≤IntKind.i64.max
def cY{S R:Type}(body:S→(S→Option R)→Option R):Nat→S→Option R
 |0,_=>none
 |n+1,s=>body s (cY body n)
abbrev YL:=(R:Type)→Nat→Nat→Nat→List V→Fr→Mem→(V→Fr→Mem→Option R)→Option R
def zN:YL:=fun _ _ _ _ _ _ _ _=>none
structure Env where
 P:Program
 ctx:FuncId→Option (List PV→Option PV)
 aH:Nat→Option (List PV)
 fid:FuncId
 fn:Func
 lp:bd
 hint:Nat→Nat→List eW
 u:Nat
 own:FuncId→Option (List PV→Option PV)
 inl:(R:Type)→FuncId→Nat→List V→Fr→Mem→(V→Fr→Mem→Option R)→Option R
 YW:(R:Type)→FuncId→Nat→YL→List V→Fr→Mem→(V→Fr→Mem→Option R)→Option R
 yl:YL
 YX:Bool:=false
 fnr:FuncId→Option FS:=fun _=>none
 zO:Nat→Bool:=fun _=>false
section
variable {R:Type} (E:Env)
def dJ(kt:TypeId)(p:PV)(a:Option R)(b:List PV→List PV→Option R):Option R:=
 match p with
 |.ux=>a
 |.rm uz ks vs=>if uz=kt then b ks vs else none
 |_=>none
def ga(t:TypeId)(p:PV)(k:PV→Option R):Option R:=
 match E.P.underlying t with
 |some (.int q)=>(asInt q p).bind fun n=>k (.int q n)
 |some .bool=>(asBool p).bind fun b=>k (.bool b)
 |some .string=>(cV p).bind fun s=>k (.str s)
 |some (.slice e)=>(aQ (aR E.P e) p).bind fun es=>k (.rs (aR E.P e) es)
 |some (.struct _)=>(asAgg (aR E.P t) p).bind fun _=>k (.agg (aC (aR E.P t) p))
 |some (.array _ _)=>(asAgg (aR E.P t) p).bind fun _=>k (.agg (aC (aR E.P t) p))
 |some (.pointer _)=>match p with
  |.o9=>k p
  |.rp _=>k p
  |_=>none
 |some (.map kt _)=>dJ kt p (k .ux) fun ks vs=>k (.rm kt ks vs)
 |some (.func _ _ _)=>match p with
  |.zL=>k .zL
  |.fn g cs=>k (.fn g cs)
  |_=>none
 |some (.interface _)=>(Pa p).bind fun b=>k (.Vv b)
 |_=>none
def yN(t:TypeId)(v:V)(k:V→Option R):Option R:=
 match v with
 |.pv p=>ga E t p fun p=>k (.pv p)
 |.top=>none
 |v=>if(E.P.underlying t).isSome then k v else none
def AW:List TypeId→List PV→(List V→Option R)→Option R
 |[],[],k=>k []
 |t::ts,p::ps,k=>ga E t p fun q=>AW ts ps fun vs=>k (.pv q::vs)
 |_,_,_=>none
def AX(ts:List TypeId)(r:PV)(k:V→Option R):Option R:=
 match ts with
 |[]=>(cO 0 r).bind fun _=>k (.bn [])
 |[t]=>ga E t r fun q=>k (.pv q)
 |ts=>(cO ts.length r).bind fun vs=>AW E ts ((List.range ts.length).map fun j=>vs.getD j .bad) fun us=>k (.bn us)
def zP(fid:FuncId)(ts:List TypeId)(r:PV)(k:V→Option R):Option R:=
 match E.fnr fid with
 |some s=>(VN s r).bind fun ls=>k (.pv (Gx s ((List.range s.n).map fun j=>ls.getD j .bad)).1)
 |none=>AX E ts r k
def bA(f:Fr):Operand→V
 |.tmp t=>bif Nat.blt t E.fn.ntmps then f t else .top
 |.const c=>EV c
 |.global g=>match E.aH g with|some cs=>.pv (.rp cs)|none=>.top
 |.func f=>bif Nat.blt f Cj then .fn f []else .top
def fresh(draw:Bool)(site:Nat)(b:bF)(f:Fr)(m:Mem)(k:Fr→Mem→bp→Option R):Option R:=
 match m site with
 |none=>k f (al m site b) [(true,site)]
 |some _=>if draw||b.names site then none else k (eL site f) (al (bB site m) site b) [(true,site)]
def pK:V→Option (List V)
 |.pv (.agg cs)=>some (cs.map .pv)
 |.agg cs=>some cs
 |_=>none
def cW:Mem:=fun _=>none
def lQ(op:BinOp)(t:TypeId)(a b:V)(k:PV→Option R):Option R:=
 match a,b with
 |.pv (.int q x),.pv (.int q' y)=>match op with
  |.shl=>if y<0 then none else k (.int q (q.wrap (x*2^(min y.toNat q.bits))))
  |.shr=>if y<0 then none else k (.int q (x.fdiv (2^(min y.toNat q.bits))))
  |op=>if q=q' then match op with
   |.add=>k (.int q (q.wrap (x+y)))
   |.sub=>k (.int q (q.wrap (x-y)))
   |.mul=>k (.int q (q.wrap (x*y)))
   |.quo=>if y=0 then none else k (.int q (q.wrap (x.tdiv y)))
   |.rem=>if y=0 then none else k (.int q (x.tmod y))
   |.and=>k (.int q (q.wrap (BitVec.ofInt q.bits x&&&BitVec.ofInt q.bits y).toNat))
   |.or=>k (.int q (q.wrap (BitVec.ofInt q.bits x|||BitVec.ofInt q.bits y).toNat))
   |.xor=>k (.int q (q.wrap (BitVec.ofInt q.bits x^^^BitVec.ofInt q.bits y).toNat))
   |.andNot=>k (.int q (q.wrap (BitVec.ofInt q.bits x&&& ~~~(BitVec.ofInt q.bits y)).toNat))
   |.eql=>k (.bool (x==y))
   |.neq=>k (.bool (x !=y))
   |.lss=>k (.bool (decide (x<y)))
   |.leq=>k (.bool (decide (x≤y)))
   |.gtr=>k (.bool (decide (x>y)))
   |.geq=>k (.bool (decide (x≥y)))
   |_=>none
   else none
 |.pv (.str x),.pv (.str y)=>match op with
  |.add=>if E.lp.room (x.length+y.length)=true then k (.str (x++y))else none
  |.eql=>k (.bool (x==y))
  |.neq=>k (.bool (!(x==y)))
  |.lss=>k (.bool (Op.bytesLess x y))
  |.leq=>k (.bool (Op.bytesLess x y||x==y))
  |.gtr=>k (.bool (!(Op.bytesLess x y||x==y)))
  |.geq=>k (.bool (!(Op.bytesLess x y)))
  |_=>none
 |.pv (.bool x),.pv (.bool y)=>match op,E.P.underlying t with
  |.eql,some .bool=>k (.bool (x==y))
  |.neq,some .bool=>k (.bool (!(x==y)))
  |_,_=>none
 |.pv .o9,.pv .o9=>match op,E.P.underlying t with
  |.eql,some (.pointer _)=>k (.bool true)
  |.neq,some (.pointer _)=>k (.bool false)
  |_,_=>none
 |.fn _ _,.pv .zL|.pv (.fn _ _),.pv .zL=>match op,E.P.underlying t with
  |.eql,some (.func _ _ _)=>k (.bool false)
  |.neq,some (.func _ _ _)=>k (.bool true)
  |_,_=>none
 |.pv (.rp _),.pv .o9|.op _ _,.pv .o9|.oe _ _ _,.pv .o9=>match op,E.P.underlying t with
  |.eql,some (.pointer _)=>k (.bool false)
  |.neq,some (.pointer _)=>k (.bool true)
  |_,_=>none
 |a,b=>if ay E.P t then match rj E.P t,pK a,pK b with
  |some ks,some as,some bs=>match pe (kn cW 1) as,pe (kn cW 1) bs with
   |some as,some bs=>if lI ks as=true∧lI ks bs=true then match op with
    |.eql=>k (.bool (dF as bs))
    |.neq=>k (.bool (!(dF as bs)))
    |_=>none
    else none
   |_,_=>none
  |_,_,_=>none
  else none
def Cl:Operand→Bool
 |.const .nilIface=>true
 |_=>false
def St(op:BinOp)(t:TypeId)(a:V)(k:PV→Option R):Option R:=
 match a with
 |.pv (.Vv b)=>match op,E.P.underlying t with
  |.eql,some (.interface _)=>k (.bool (!b))
  |.neq,some (.interface _)=>k (.bool b)
  |_,_=>none
 |_=>none
def Ic(op:BinOp)(t:TypeId)(y:Operand)(a b:V)(k:PV→Option R):Option R:=bif Cl y then St E op t a k else lQ E op t a b k
noncomputable def agree(a b:Option R):Option R:= @ite _ (a=b) (Classical.propDecidable _) a none
noncomputable def La(op:BinOp)(t:TypeId)(es:List PV)(k:Bool→Option R):Option R:=
 match op,E.P.underlying t with
 |.eql,some (.slice _)=>if es.isEmpty=true then agree (k true) (k false)else k false
 |.neq,some (.slice _)=>if es.isEmpty=true then agree (k false) (k true)else k true
 |_,_=>none
def xun(op:UnOp)(a:V)(k:PV→Option R):Option R:=
 match op,a with
 |.not,.pv (.bool b)=>k (.bool !b)
 |.neg,.pv (.int q n)=>k (.int q (q.wrap (0-n)))
 |.xor,.pv (.int q n)=>k (.int q (q.wrap (BitVec.ofInt q.bits (if q.signed then-1 else q.max)^^^BitVec.ofInt q.bits n).toNat))
 |_,_=>none
def Cm(s d:TypeId)(a:V)(k:PV→Option R):Option R:=
 match E.P.underlying s,E.P.underlying d,a with
 |some (.int q),some (.int q'),.pv (.int q'' n)=>if q''=q then(if q'=q then k (.int q n)else k (.int q' (q'.wrap n)))else none
 |some .string,some .string,.pv (.str s)=>k (.str s)
 |_,_,_=>none
def rF(s:Nat)(t:TypeId)(e:PV)(off:Nat)(k:V→Option R):Option R:=
 if ay E.P t then(if off+aR E.P t≤s then k (.pv (.agg (((aC s e).drop off).take (aR E.P t))))else none)
 else match(aC s e)[off]? with
  |some p=>ga E t p fun p=>k (.pv p)
  |none=>none
def pvO:V→Option PV
 |.pv p=>some p
 |_=>none
def zQ(t:TypeId)(s i off:Nat):Bool:=match E.P.underlying t with
 |some (.array _ e)=>Nat.beq (aR E.P e) s&&ay E.P e&&Nat.beq i 0&&Nat.beq off 0
 |_=>false
def oU(own:Bool)(t:TypeId)(a:V)(m:Mem)(k:V→bp→Option R):Option R:=
 match a with
 |.pv (.rp cs)=>
  if ay E.P t then(if aR E.P t≤cs.length then k (.pv (.agg (cs.take (aR E.P t)))) []else none)
  else(cs.head?).bind fun p=>ga E t p fun p=>k (.pv p) []
 |.op id off=>match m id with
  |some (.box cs)=>
   if ay E.P t then(if off+aR E.P t≤cs.length then k (.agg ((cs.drop off).take (aR E.P t))) [(false,id)]else none)
   else match pe pvO cs with
    |some ps=>(ps[off]?).bind fun p=>ga E t p fun p=>k (.pv p) [(false,id)]
    |none=>match cs[off]? with
     |some v=>yN E t v fun v=>k v [(false,id)]
     |none=>none
  |_=>none
 |.oe id i off=>match m id with
  |some (.arr s _ es)=>bif zQ E t s i off then(if es.length*s=aR E.P t then k (.pv (.agg (ey s es))) [(false,id)]else none)else(es[i]?).bind fun e=>rF E s t e off fun v=>k v [(false,id)]
  |some (.pt s _ es)=>(es[i]?).bind fun e=>rF E s t e off fun v=>k v [(false,id)]
  |some (.nest _ _ es)=>if ay E.P t then none else(es[i]?).bind fun e=>
   if own then(match E.P.underlying t with
    |some (.slice et)=>(eK (aR E.P et) (cell e off)).bind fun _=>k (.uF id i off) [(false,id)]
    |_=>none)
   else ga E t (cell e off) fun p=>k (.pv p) [(false,id)]
  |_=>none
 |.yL id i off s j off2=>match m id with
  |some (.nest _ _ es)=>(es[i]?).bind fun e=>(eK s (cell e off)).bind fun rs=>(rs[j]?).bind fun q=>rF E s t q off2 fun v=>k v [(false,id)]
  |_=>none
 |_=>none
def over{T:Type}:List T→List T→List T
 |[],cs=>cs
 |x::new,[]=>x::over new []
 |x::new,_::cs=>x::over new cs
def bH{T:Type}:List T→Nat→List T→List T
 |cs,0,new=>over new cs
 |[],_+1,new=>new
 |c::cs,off+1,new=>c::bH cs off new
theorem Gy{T:Type}:∀(new cs:List T),over new cs=new++cs.drop new.length
 |[],cs=>by rfl
 |x::new,[]=>by simp[over,Gy new []]
 |x::new,_::cs=>by simp[over,Gy new cs]
theorem dw{T:Type}:∀(cs:List T)(off:Nat)(new:List T),bH cs off new=cs.take off++new++cs.drop (off+new.length)
 |cs,0,new=>by cases cs<;>simp[bH,Gy]
 |[],_+1,new=>by simp[bH]
 |c::cs,off+1,new=>by rw[bH,dw cs off new,show off+1+new.length=(off+new.length)+1 by omega];simp
def uH(draw:Bool)(m:Mem)(n:Nat)(agg:Bool)(v:V):Option (PV×Mem):=if draw then(match j4 cW n agg v with|some (p,_)=>some (p,m)|none=>none)else j4 m n agg v
def setRow(s:Nat)(e:PV)(off:Nat)(p:PV):PV:=if s=1 then p else .agg ((aC s e).set off p)
def setCells(s:Nat)(e:PV)(off n:Nat)(p:PV):PV:=if off=0∧n=s then p else .agg (bH (aC s e) off p.cells)
def Lb(t:TypeId)(i off:Nat)(b:Option bF)(x:V):Option (Nat×TypeId×Nat×PV):=match b,x with
 |some (.arr s et es),.pv p=>bif zQ E t s i off then some (s,et,es.length,p)else none
 |_,_=>none
def rG(draw:Bool)(t:TypeId)(a x:V)(m:Mem)(k:Mem→bp→Option R):Option R:=
 match a with
 |.op id off=>match m id with
  |some (.box cs)=>match toCells (aR E.P t) x with
   |some new=>if off+aR E.P t≤cs.length∧0<aR E.P t then k (al m id (.box (bH cs off new))) [(true,id)]else none
   |none=>none
  |_=>none
 |.oe id i off=>match Lb E t i off (m id) x with
  |some (s,et,n,p)=>(asAgg (aR E.P t) p).bind fun _=>if n*s=aR E.P t∧0<aR E.P t then k (al m id (.arr s et (ff s n p))) [(true,id)]else none
  |none=>match uH draw m (aR E.P t) (ay E.P t) x with
  |some (p,m)=>match m id with
   |some (.arr s et es)=>(es[i]?).bind fun e=>
    if off=0∧aR E.P t=s∧0<s then k (al m id (.arr s et (es.set i p))) [(true,id)]
    else if off+aR E.P t≤s∧0<aR E.P t∧1<s then k (al m id (.arr s et (es.set i (.agg (bH (aC s e) off p.cells))))) [(true,id)]
    else none
   |some (.nest s et es)=>(es[i]?).bind fun e=>if off+aR E.P t≤s∧0<aR E.P t∧1<s then k (al m id (.nest s et (es.set i (.agg (bH (aC s e) off p.cells))))) [(true,id)]else none
   |_=>none
  |none=>none
 |.yL id i off s j off2=>match j4 cW (aR E.P t) (ay E.P t) x with
  |some (p,_)=>match m id with
   |some (.nest s0 et es)=>(es[i]?).bind fun e=>(eK s (cell e off)).bind fun rs=>(rs[j]?).bind fun q=>
    if off2+aR E.P t≤s∧0<aR E.P t∧off<s0 then k (al m id (.nest s0 et (es.set i (setRow s0 e off (.pd s (rs.set j (setCells s q off2 (aR E.P t) p))))))) [(true,id)]
    else none
   |_=>none
  |none=>none
 |_=>none
def Ew(m:Mem)(x:V)(k:Nat→bp→Option R):Option R:=
 match x with
 |.pv (.rs _ es)=>k es.length []
 |.gF=>k 0 []
 |.fx id _ len=>match m id with
  |some (.arr _ _ _)=>k len [(false,id)]
  |some (.pt _ _ _)=>k len [(false,id)]
  |_=>none
 |.os id=>match m id with
  |some (.arr _ _ es)=>k es.length [(false,id)]
  |some (.pt _ _ es)=>k es.length [(false,id)]
  |some (.nest _ _ es)=>k es.length [(false,id)]
  |some (.box cs)=>if cs.length≤maxLen then k cs.length [(false,id)]else none
  |_=>none
 |_=>none
def Qy(sz:Nat)(m:Mem)(x:V)(k:Nat→bp→Option R):Option R:=
 match x with
 |.uF id i off=>match m id with
  |some (.nest _ _ es)=>(es[i]?).bind fun e=>(eK sz (cell e off)).bind fun rs=>k rs.length [(false,id)]
  |_=>none
 |x=>Ew m x k
def Su(m:Mem)(x:V)(k:Nat→bp→Option R):Option R:=
 match x with
 |.om id=>match m id with
  |some (.map _ es)=>if es.length≤maxLen then k es.length [(false,id)]else none
  |_=>none
 |.pv .ux=>k 0 []
 |_=>none
def Ie(t:TypeId)(x:V)(m:Mem)(k:V→bp→Option R):Option R:=
 match E.P.underlying t with
 |some (.array n _)=>if n≤maxLen then k (.pv (.int .i64 n)) []else none
 |some .string=>match x with
  |.pv (.str s)=>k (.pv (.int .i64 s.length)) []
  |_=>none
 |some (.slice e)=>Qy (aR E.P e) m x fun n ft=>k (.pv (.int .i64 n)) ft
 |some (.map _ _)=>Su m x fun n ft=>k (.pv (.int .i64 n)) ft
 |_=>none
def eA(m:Mem)(sz:Nat):V→Option (List PV×bp)
 |.pv (.rs s es)=>if s=sz then some (es,[])else match es with|[]=>some ([],[])|_=>none
 |.gF=>some ([],[])
 |.os id=>match m id with
  |some (.arr s' _ es)=>if s'=sz then some (es,[(false,id)])else none
  |some (.pt s' _ es)=>if s'=sz then some (es,[(false,id)])else none
  |_=>none
 |.fx id lo len=>match m id with
  |some (.arr s' _ es)=>if s'=sz then some ((es.drop lo).take len,[(false,id)])else none
  |some (.pt s' _ es)=>if s'=sz then some ((es.drop lo).take len,[(false,id)])else none
  |_=>none
 |.uF id i off=>match m id with
  |some (.nest _ _ es)=>(es[i]?).bind fun e=>(eK sz (cell e off)).bind fun rs=>some (rs,[(false,id)])
  |_=>none
 |_=>none
def Gz(m:Mem)(sz:Nat)(x:V)(k:List PV→bp→Option R):Option R:=
 match x with
 |.uF id i off=>match m id with
  |some (.nest _ _ es)=>(es[i]?).bind fun e=>(eK sz (cell e off)).bind fun rs=>k rs [(false,id)]
  |_=>none
 |x=>match eA m sz x with
  |some (es,ft)=>k es ft
  |none=>none
def zR:List PV→Option Bytes
 |[]=>some []
 |.int .u8 n::r=>(zR r).map fun b=>UInt8.ofNat n.toNat::b
 |_=>none
def zS(s d:TypeId)(a:V)(m:Mem)(k:PV→bp→Option R):Option R:=
 match E.P.underlying s,E.P.underlying d with
 |some (.slice e),some .string=>match E.P.underlying e,eA m 1 a with
  |some (.int .u8),some (es,ft)=>(zR es).bind fun b=>k (.str b) ft
  |_,_=>none
 |_,_=>Cm E s d a fun p=>k p []
def ab(i:Int)(n:Nat):Prop:=0≤i∧i<(n:Int)
instance (i:Int) (n:Nat):Decidable (ab i n):=inferInstanceAs (Decidable (_∧_))
def cZ(t:TypeId)(x ix:V)(m:Mem)(k:V→bp→Option R):Option R:=
 match ix with
 |.pv (.int _ i)=>match E.P.underlying t,x with
  |some (.slice e),.pv (.rs s es)=>if s=aR E.P e∧0<s then(aM es i).bind fun p=>k (.pv (.rp (aC s p))) []else none
  |some (.slice e),.os id=>match m id with
   |some (.arr s _ es)=>if s=aR E.P e∧0<s then(if ab i es.length then k (.oe id i.toNat 0) [(false,id)]else none)else none
   |some (.pt s _ es)=>if s=aR E.P e∧0<s then(if ab i es.length then k (.oe id i.toNat 0) [(false,id)]else none)else none
   |some (.nest s _ es)=>if s=aR E.P e∧0<s then(if ab i es.length then k (.oe id i.toNat 0) [(false,id)]else none)else none
   |some (.box cs)=>if aR E.P e=1∧ab i cs.length then k (.op id i.toNat) [(false,id)]else none
   |_=>none
  |some (.slice e),.uF id i0 off=>match m id with
   |some (.nest _ _ es)=>if 0<aR E.P e then(es[i0]?).bind fun e0=>(eK (aR E.P e) (cell e0 off)).bind fun rs=>if ab i rs.length then k (.yL id i0 off (aR E.P e) i.toNat 0) [(false,id)]else none else none
   |_=>none
  |some (.slice e),.fx id lo len=>match m id with
   |some (.arr s _ _)=>if s=aR E.P e∧0<s then(if ab i len then k (.oe id (lo+i.toNat) 0) [(false,id)]else none)else none
   |some (.pt s _ _)=>if s=aR E.P e∧0<s then(if ab i len then k (.oe id (lo+i.toNat) 0) [(false,id)]else none)else none
   |_=>none
  |some (.array n e),.op id off=>if ab i n∧0<aR E.P e then k (.op id (off+i.toNat*aR E.P e)) []else none
  |some (.array n e),.pv (.rp cs)=>if ab i n∧0<aR E.P e then k (.pv (.rp (cs.drop (i.toNat*aR E.P e)))) []else none
  |some (.array n e),.oe id j off=>if ab i n∧0<aR E.P e then(match(match m id with|some (.arr s _ _)=>Nat.beq (aR E.P e) s|_=>false)with
   |true=>k (.oe id (i.toNat+j) off) [(false,id)]
   |false=>k (.oe id j (off+i.toNat*aR E.P e)) [(false,id)])else none
  |_,_=>none
 |_=>none
def yO(s:TypeId)(j:Nat):Option (Nat×TypeId):=
 match E.P.underlying s with
 |some (.struct fs)=>match fs[j]? with
  |some f=>if aR E.P f.type=0 then none else some (f.offset,f.type)
  |none=>none
 |_=>none
def jH(s:TypeId)(x:V)(j:Nat)(k:V→Option R):Option R:=
 match yO E s j with
 |some (o,_)=>match x with
  |.pv (.rp cs)=>k (.pv (.rp (cs.drop o)))
  |.op id off=>k (.op id (off+o))
  |.oe id i off=>k (.oe id i (off+o))
  |.yL id i off s j off2=>k (.yL id i off s j (off2+o))
  |_=>none
 |none=>none
def Cn(t:TypeId)(cs:List V)(off:Nat)(k:V→Option R):Option R:=
 if ay E.P t then(if off+aR E.P t≤cs.length then k (.agg ((cs.drop off).take (aR E.P t)))else none)
 else match cs[off]? with
  |some v=>yN E t v k
  |none=>none
def Co(s:TypeId)(x:V)(j:Nat)(k:V→Option R):Option R:=
 match yO E s j,pK x with
 |some (o,t),some cs=>Cn E t cs o k
 |_,_=>none
def zT(t:TypeId)(x ix:V)(k:V→Option R):Option R:=
 match ix with
 |.pv (.int _ i)=>match E.P.underlying t,x with
  |some .string,.pv (.str s)=>(Qx s i).bind fun b=>k (.pv (.int .u8 b.toNat))
  |some (.array n et),x=>match pK x with
   |some cs=>if ab i n∧0<aR E.P et then Cn E et cs (i.toNat*aR E.P et) k else none
   |none=>none
  |_,_=>none
 |_=>none
def je(d:Int):Option V→Option Int
 |none=>some d
 |some (.pv (.int _ i))=>some i
 |_=>none
def ti(t:TypeId)(x:V)(lo hi mx:Option V)(m:Mem)(k:V→bp→Option R):Option R:=
 match mx with
 |some mx=>match E.P.underlying t,x with
  |some (.slice e),.os id=>match m id with
   |some (.arr s _ es)=>match lo,hi,mx with
    |none,some (.pv (.int _ h)),.pv (.int _ c)=>if 0≤h∧h≤c∧c≤(es.length:Int)∧s=aR E.P e then k (.fx id 0 h.toNat) [(false,id)]else none
    |_,_,_=>none
   |_=>none
  |_,_=>none
 |none=>match E.P.underlying t,x with
  |some .string,.pv (.str s)=>match je 0 lo,je s.length hi with
   |some l,some h=>if 0≤l∧l≤h∧h≤(s.length:Int)then k (.pv (.str ((s.take h.toNat).drop l.toNat))) []else none
   |_,_=>none
  |some (.slice e),.pv (.rs sz es)=>match je 0 lo,je es.length hi with
   |some l,some h=>if 0≤l∧l≤h∧h≤(es.length:Int)∧sz=aR E.P e∧aR E.P e≠0 then k (.pv (.rs sz ((es.take h.toNat).drop l.toNat))) []else none
   |_,_=>none
  |some (.slice e),.os id=>match m id with
   |some (.arr s _ es)=>match je 0 lo,je es.length hi with
    |some l,some h=>if 0≤l∧l≤h∧h≤(es.length:Int)∧s=aR E.P e then k (.fx id l.toNat (h.toNat-l.toNat)) [(false,id)]else none
    |_,_=>none
   |some (.pt s _ es)=>match je 0 lo,je es.length hi with
    |some l,some h=>if 0≤l∧l≤h∧h≤(es.length:Int)∧s=aR E.P e then k (.fx id l.toNat (h.toNat-l.toNat)) [(false,id)]else none
    |_,_=>none
   |_=>none
  |_,_=>none
def placesOf(fs:List Field)(j:Nat):Option (Nat×Nat):=(fs[j]?).map fun f=>(f.offset,aR E.P f.type)
def EW(place:Nat→Option (Nat×Nat))(cs:List V):List (Nat×V)→Option (List V)
 |[]=>some cs
 |(i,v)::rest=>match place i with
  |some (off,size)=>match toCells size v with
   |some new=>if off+size≤cs.length then EW place (bH cs off new) rest else none
   |none=>none
  |none=>none
def c7(t:TypeId):Option (List V):=match zeroV E.P t with|some v=>toCells (aR E.P t) v|none=>none
def zU(t:TypeId)(parts:List (Nat×V))(k:V→Option R):Option R:=
 match c7 E t,E.P.underlying t with
 |some z,some (.struct fs)=>if fs.toList.all (fun f=>(E.P.info? f.type).isSome)then match EW (placesOf E fs.toList) z parts with
  |some cs=>k (.agg cs)
  |none=>none
  else none
 |some z,some (.array _ e)=>if 0<aR E.P e then match EW (fun i=>some (i*aR E.P e,aR E.P e)) z parts with
  |some cs=>k (.agg cs)
  |none=>none
  else none
 |_,_=>none
def eR(m:Mem)(n:Nat)(agg:Bool):Nat→List (Nat×V)→Option (List PV×Mem)
 |_,[]=>some ([],m)
 |i,(j,v)::r=>if i=j then match j4 m n agg v with
  |some (p,m)=>match eR m n agg (i+1) r with
   |some (ps,m)=>some (p::ps,m)
   |none=>none
  |none=>none
  else none
def Cp:Nat→List (Nat×V)→Option (List V)
 |_,[]=>some []
 |i,(j,v)::r=>if i=j then match toCells 1 v with
  |some cs=>match Cp (i+1) r with
   |some us=>some (cs++us)
   |none=>none
  |none=>none
  else none
def Pb(t:TypeId):Bool:=match E.P.underlying t with|some (.func _ _ _)=>true|_=>false
def zV(t:TypeId):Option PV:=match zeroV E.P t with
 |some v=>match kn cW 2 v with
  |some p=>if ay E.P t=p.isAgg∧p.cells.length=aR E.P t∧p.plain=true then some p else none
  |none=>none
 |none=>none
def keyOf(kt:TypeId)(v:V):Option PV:=
 match rj E.P kt with
 |some ks=>
  if ay E.P kt then(match pK v with
   |some cs=>match pe (kn cW 1) cs with
    |some ps=>if lI ks ps then some (.agg ps)else none
    |none=>none
   |none=>none)
  else match v with
   |.pv p=>if lI ks [p]then some p else none
   |_=>none
 |none=>none
def Ig(site:Nat)(t:TypeId)(x ix:V)(m:Mem)(k:V→Mem→bp→Option R):Option R:=
 match E.P.underlying t with
 |some (.map kt et)=>match E.P.underlying et with
  |some (.slice e)=>match x,zeroV E.P et with
   |.om id,some .gF=>match m id,m site with
    |some (.eY uz e' es),none=>if uz=kt∧e'=e∧0<aR E.P e then(keyOf E kt ix).bind fun key=>(Ia (aR E.P e) key es).bind fun rs=>k (.os site) (al (al m id (.eY kt e (ri key es))) site (.arr (aR E.P e) e rs)) [(true,id),(true,site)]else none
    |_,_=>none
   |_,_=>none
  |_=>none
 |_=>none
def tl(t:TypeId)(x ix:V)(ok:Bool)(m:Mem)(k:V→bp→Option R):Option R:=
 match E.P.underlying t with
 |some (.map kt et)=>match zV E et with
  |some z=>match x with
   |.om id=>match m id with
    |some (.map uz es)=>if uz=kt then(keyOf E kt ix).bind fun key=>ga E et (dD key z es) fun v=>k (if ok then .bn [.pv v,.pv (.bool (uy key es))]else .pv v) [(false,id)]else none
    |_=>none
   |.pv p=>dJ kt p ((keyOf E kt ix).bind fun _=>k (if ok then .bn [.pv z,.pv (.bool false)]else .pv z) []) fun ks vs=>(keyOf E kt ix).bind fun key=>ga E et (dD key z (ks.zip vs)) fun v=>k (if ok then .bn [.pv v,.pv (.bool (uy key (ks.zip vs)))]else .pv v) []
   |_=>none
  |none=>none
 |_=>none
def yP(draw:Bool)(m:Mem)(v:V):Option (PV×Mem):=if draw then(match tg cW v with|some (p,_)=>some (p,m)|none=>none)else tg m v
def mY(draw:Bool)(t:TypeId)(x key val:V)(m:Mem)(k:Mem→bp→Option R):Option R:=
 match E.P.underlying t with
 |some (.map kt _)=>match x with
  |.om id=>match yP draw m val with
   |some (v,m)=>match m id with
    |some (.map uz es)=>if uz=kt then(keyOf E kt key).bind fun key=>k (al m id (.map kt (eG key v es))) [(true,id)]else none
    |_=>none
   |none=>none
  |_=>none
 |_=>none
def aj:Nat:=140737488355328
def kG(m:Mem):Nat→List V→Option (List PV×Option (Nat×Nat))
 |_,[]=>some ([],none)
 |j,.os id::r=>match m id with
  |some (.arr s _ es)=>match kG m (j+1) r with
   |some (ps,none)=>some (.pd s es::ps,some (j,id))
   |_=>none
  |_=>none
 |j,v::r=>match kn cW 1 v with
  |some p=>match kG m (j+1) r with
   |some (ps,t)=>some (p::ps,t)
   |none=>none
  |none=>none
def elemOf(agg:Bool)(ps:List PV):Option PV:=if agg then some (.agg ps)else match ps with|[p]=>some p|_=>none
inductive Sp where
 |st (id i off s:Nat) (et:TypeId) (es ps:List PV) (id2:Nat)
 |app (id s:Nat) (et:TypeId) (es new:List PV) (src:Option Nat) (rd:bp)
 |lit (s:Nat) (et:TypeId) (p:PV) (id2:Nat)
 |upd (id:Nat) (kt e:TypeId) (es:List (PV×PV)) (key:PV) (s:Nat) (rs:List PV) (id2:Nat)
def xC(site:Nat)(o:Oper)(f:Fr)(m:Mem):Option Sp:=
 match o.op with
 |.store t a x=>match bA E f a with
  |.oe id i off=>match m id with
   |some (.nest s et es)=>match toCells (aR E.P t) (bA E f x)with
    |some cs=>match kG m 0 cs with
     |some (ps,some (_,id2))=>if off+aR E.P t≤s&&0<aR E.P t&& !(Nat.beq id2 id)then some (.st id i off s et es ps id2)else none
     |_=>none
    |none=>none
   |_=>none
  |_=>none
 |.buildSlice t len parts=>match E.P.underlying t,parts.toList.map fun(i,x)=>(i,bA E f x)with
  |some (.slice e),[(0,v)]=>match toCells (aR E.P e) v with
   |some cs=>match kG m 0 cs,m site with
    |some (ps,some (_,id2)),none=>match elemOf (ay E.P e) ps with
     |some p=>if Nat.beq len 1&&0<aR E.P e&&aR E.P e≤16777216&&(c7 E e).isSome then some (.lit (aR E.P e) e p id2)else none
     |none=>none
    |_,_=>none
   |none=>none
  |_,_=>none
 |.call c=>match c.callee,c.args.toList.map (bA E f),c.argTypes.toList with
  |.builtin .append,[.os id,x],[t,t']=>match E.P.underlying t,m id with
   |some (.slice e),some (.nest s et es)=>if et=e&&s=aR E.P e&&decide (t'=t)&&(c7 E e).isSome&&0<aR E.P e&&0<Ev E.P e then(match x with
    |.os qY=>match m qY with
     |some (.nest s' Eo new)=>if Nat.beq s' s&&decide (Eo=et)&& !(Nat.beq qY id)then some (.app id s et es new (some qY) [])else none
     |_=>match eA m s x with
      |some (new,rd)=>if x.has id then none else some (.app id s et es new none rd)
      |none=>none
    |_=>match eA m s x with
     |some (new,rd)=>if x.has id then none else some (.app id s et es new none rd)
     |none=>none)else none
   |_,_=>none
  |_,_,_=>none
 |.mapUpdate t x key v=>match E.P.underlying t,bA E f x,bA E f v with
  |some (.map kt _),.om id,.os id2=>match m id,m id2,keyOf E kt (bA E f key)with
   |some (.eY uz e es),some (.arr s e' rs),some key=>if decide (uz=kt)&&decide (e'=e)&&Nat.beq s (aR E.P e)then some (.upd id kt e es key s rs id2)else none
   |_,_,_=>none
  |_,_,_=>none
 |_=>none
def Sp.info(site:Nat):Sp→Kl×bp
 |.st id _ _ _ _ _ _ id2=>([(true,id2),(false,id)],[(true,id),(true,id2)])
 |.app id _ _ _ _ (some id2) _=>([(true,id2),(true,id)],[(true,id),(true,id2)])
 |.app id _ _ _ _ none rd=>([(true,id)],(true,id)::rd)
 |.lit _ _ _ id2=>([(true,id2)],[(true,site),(true,id2)])
 |.upd id _ _ _ _ _ _ id2=>([(true,id2),(false,id)],[(true,id),(true,id2)])
def XK(site:Nat)(sp:Sp)(f:Fr)(m:Mem)(k:V→Fr→Mem→bp→Option R):Option R:=
 match sp with
 |.st id i off s et es ps id2=>(es[i]?).bind fun e=>k .top (kf [(true,id2),(false,id)] f) (sj [(id,.nest s et (es.set i (if s=1 then ps.headD .bad else .agg (bH (aC s e) off ps))))] (km [(true,id2),(false,id)] m)) [(true,id),(true,id2)]
 |.app id s et es new src rd=>if(es++new).length*Ev E.P et≤aj then k (.os id) (kf (Sp.app id s et es new src rd|>.info site).1 f) (sj [(id,.nest s et (es++new))] (km (Sp.app id s et es new src rd|>.info site).1 m)) (Sp.app id s et es new src rd|>.info site).2 else none
 |.lit s et p id2=>k (.os site) (kf [(true,id2)] f) (sj [(site,.nest s et [p])] (km [(true,id2)] m)) [(true,site),(true,id2)]
 |.upd id kt e es key s rs id2=>k .top (kf [(true,id2),(false,id)] f) (sj [(id,.eY kt e (eG key (.pd s rs) es))] (km [(true,id2),(false,id)] m)) [(true,id),(true,id2)]
def yQ(draw:Bool)(site:Nat)(t t':TypeId)(s x:V)(f:Fr)(m:Mem)(k:V→Fr→Mem→Option R):Option R:=
 if draw|| !(decide (t'=t))then none else
 match E.P.underlying t with
 |some (.slice e)=>if(c7 E e).isNone then none else match eA m (aR E.P e) x with
  |some (new,_)=>match s with
   |.gF=>if new.length*Ev E.P e≤aj∧0<Ev E.P e∧0<aR E.P e then fresh draw site (.arr (aR E.P e) e new) f m (fun f m _=>k (.os site) f m)else none
   |.os id=>match m id with
    |some (.arr sz et es)=>if et=e∧sz=aR E.P e∧x.has id=false then(if(es++new).length*Ev E.P e≤aj∧0<Ev E.P e then fresh draw id (.arr sz e (es++new)) (eL id f) (bl (bB id m) id) (fun f m _=>k (.os id) f m)else none)else none
    |_=>none
   |_=>none
  |none=>none
 |_=>none
def Ih(t:TypeId)(d x:V)(m:Mem)(k:V→Mem→bp→Option R):Option R:=
 match E.P.underlying t with
 |some (.slice e)=>match d with
  |.os id=>match m id with
   |some (.arr sz et es)=>if sz=aR E.P e∧x.has id=false then Gz m sz x fun new ft=>k (.pv (.int .i64 (min new.length es.length:Nat))) (al m id (.arr sz et (new.take es.length++es.drop new.length))) ((true,id)::ft)else none
   |_=>none
  |_=>none
 |_=>none
def Cq(t:TypeId)(x:V)(m:Mem)(k:V→Mem→bp→Option R):Option R:=
 match E.P.underlying t with
 |some (.slice e)=>match x,zV E e with
  |.fx id lo len,some z=>match m id with
   |some (.arr sz et es)=>if sz=aR E.P e∧et=e∧lo+len≤es.length∧0<aR E.P e then k .top (al m id (.arr sz et (es.take lo++(List.replicate len z++es.drop (lo+len))))) [(true,id)]else none
   |_=>none
  |_,_=>none
 |_=>none
def pL(draw:Bool)(site:Nat)(t:TypeId)(len cap:V)(f:Fr)(m:Mem)(k:V→Fr→Mem→bp→Option R):Option R:=
 match E.P.underlying t,len,cap with
 |some (.slice e),.pv (.int _ n),.pv (.int _ c)=>match zV E e with
  |some z=>if 0≤n∧n≤c∧c.toNat*Ev E.P e≤aj∧0<Ev E.P e∧0<aR E.P e then fresh draw site (.arr (aR E.P e) e (List.replicate n.toNat z)) f m (fun f m ft=>k (.os site) f m ft)else none
  |none=>none
 |_,_,_=>none
def Ii(a b:V)(k:PV→Option R):Option R:=match a,b with
 |.pv (.int q x),.pv (.int q' y)=>if q=q' then k (.int q (if y<x then y else x))else none
 |_,_=>none
def AY(a b:V)(k:PV→Option R):Option R:=match a,b with
 |.pv (.int q x),.pv (.int q' y)=>if q=q' then k (.int q (if y>x then y else x))else none
 |_,_=>none
def Ij(a b c d:V)(k:PV→Option R):Option R:=AY a b fun p=>AY (.pv p) c fun p=>AY (.pv p) d k
def tn(t:TypeId):Bool:=match E.P.underlying t with|some (.int _)|some .bool|some .string=>true|_=>false
def ig(m:Mem):List V→Option (List PV×Mem)
 |[]=>some ([],m)
 |v::r=>match tg m v with
  |some (p,m)=>match ig m r with
   |some (ps,m)=>some (p::ps,m)
   |none=>none
  |none=>none
def EX:PV→PV
 |.int q n=>.int q n
 |.bool b=>.bool b
 |.str s=>.str s
 |_=>.bad
def ui(draw:Bool)(site:Nat)(fid:FuncId)(args:List V)(f:Fr)(m:Mem)(k:V→Fr→Mem→bp→Option R):Option R:=
 match E.ctx fid with
 |some M=>match E.P.funcs[fid]? with
  |some fn=>
   if fn.resultTypes.toList.all (tn E)then(match pe (kn m ez) args with
     |some ps=>(M ps).bind fun r=>AX E fn.resultTypes.toList r fun v=>k v f m ((ic (cP m ez) args).map fun i=>(false,i))
     |none=>none)
   else(match ig (if draw then cW else m) args with
     |some (ps,m')=>(M ps).bind fun r=>zP E fid fn.resultTypes.toList r fun v=>k v f (if draw then m else m') (if draw then[]else[(true,0)])
     |none=>none)
  |none=>none
 |none=>match E.own fid with
  |some M=>match E.P.funcs[fid]? with
   |some fn=>match fn.resultTypes.toList with
    |[t]=>match E.P.underlying t with
     |some (.slice e)=>if tn E e=true∧aR E.P e=1 then(match pe (kn m ez) args with
      |some ps=>(M ps).bind fun r=>(aQ (aR E.P e) r).bind fun es=>fresh draw site (.arr (aR E.P e) e (es.map EX)) f m fun f m1 ft=>k (.os site) f m1 (ft++(ic (cP m ez) args).map fun i=>(false,i))
      |none=>none)
      else match ig (if draw then cW else m) args with
      |some (ps,m')=>(M ps).bind fun r=>(aQ (aR E.P e) r).bind fun es=>fresh draw site (.arr (aR E.P e) e es) f (if draw then m else m') fun f m ft=>k (.os site) f m ft
      |none=>none
     |_=>none
    |_=>none
   |none=>none
  |none=>if draw then none else E.inl R fid (site*4096+fid) args f m fun v f m=>k v f m [(true,0)]
def Sv(f:TypeId→Option (List TypeId)):List Field→Option (List TypeId)
 |[]=>some []
 |x::r=>(f x.type).bind fun a=>(Sv f r).bind fun b=>some (a++b)
def Sw(l:List TypeId):Nat→List TypeId
 |0=>[]
 |n+1=>l++Sw l n
def Cr(P:Program):Nat→TypeId→Option (List TypeId)
 |0,_=>none
 |d+1,t=>match P.underlying t with
  |some (.struct fs)=>Sv (Cr P d) fs.toList
  |some (.array n e)=>(Cr P d e).bind fun l=>some (Sw l n)
  |some _=>some [t]
  |none=>none
def uj(n:Nat)(args:List V)(f:Fr):Fr:=fun t=>bif Nat.blt t n then args.getD t .top else f (t-n)
def uI(n:Nat)(f:Fr):Fr:=fun t=>f (t+n)
def Sx:V→Bool
 |.gF=>true
 |_=>false
def sq(site j:Nat):Nat:=site+(j+1)*1606938044258990275541962092341162602522202993782792835301376
def wo(E:Env){R:Type}(site:Nat):List TypeId→Nat→Fr→Mem→(Fr→Mem→Option R)→Option R
 |[],_,F,m,k=>k F m
 |t::ts,j,F,m,k=>match F j with
  |.gF=>match E.P.underlying t with
   |some (.slice e)=>if 0<aR E.P e then fresh false (sq site j) (.arr (aR E.P e) e []) F m fun F m _=>wo E site ts (j+1) (fY F j (.os (sq site j))) m k else none
   |_=>none
  |_=>wo E site ts (j+1) F m k
def aa2(E:Env)(t:TypeId):Bool:=match E.P.underlying t with|some (.slice _)=>true|_=>false
def GA(f:Fr):Option Operand→Bool
 |none=>true
 |some x=>match bA E f x with|.pv (.int _ _)=>true|_=>false
noncomputable def rq(n:Nat)(g:Nat→Option R):Option R:= @dite _ (∃r,∀i,i<n→g i=some r) (Classical.propDecidable _) (fun h=>some (Classical.choose h)) fun _=>none
def Lc(site:Nat)(t:TypeId)(x:V)(f:Fr)(m:Mem)(k:V→Fr→Mem→Option R):Option R:=
 match E.P.underlying t with
 |some (.map kt _)=>match x with
  |.om id=>match m id with
   |some (.map uz es)=>if uz=kt then fresh false site (.iter t es none) (eL id f) (bl (bB id m) id) fun f m _=>k (.it site) f m else none
   |_=>none
  |_=>none
 |_=>none
noncomputable def Sy(x:V)(f:Fr)(m:Mem)(k:V→Fr→Mem→Option R):Option R:=
 match x with
 |.it id=>match m id with
  |some (.iter t es _)=>match E.P.underlying t with
   |some (.map kt et)=>if es.isEmpty=true then k (.bn [.pv (.bool false)]) f m else rq es.length fun i=>(es[i]?).bind fun e=>ga E kt e.1 fun a=>ga E et e.2 fun b=>k (.bn [.pv (.bool true),.pv a,.pv b]) f (al m id (.iter t (es.eraseIdx i) (some (a,b))))
   |_=>none
  |_=>none
 |_=>none
def Ld(x:V)(m:Mem)(k:V→Mem→Option R):Option R:=
 match x with
 |.it id=>match m id with
  |some (.iter t es (some (a,b)))=>k (.bn [.pv a,.pv b]) (al m id (.iter t es none))
  |_=>none
 |_=>none
def Le:Op→Bool
 |.range .. =>true
 |.next .. =>true
 |.entry .. =>true
 |_=>false
def uk(g:FuncId):FuncId:=bif Nat.blt g Cj then g else g-Cj
def xD(g:FuncId)(caps args:List V):List V:=bif Nat.blt g Cj then args++caps else caps++args
noncomputable def cC(draw:Bool)(site:Nat)(o:Oper)(f:Fr)(m:Mem)(k:V→Fr→Mem→bp→Option R):Option R:=
 match o.op with
 |.move x=>k (bA E f x) f m []
 |.assign x=>match bA E f x with
  |.gF=>match E.P.underlying o.type with
   |some (.slice e)=>if 0<aR E.P e then fresh draw site (.arr (aR E.P e) e []) f m fun f m ft=>k (.os site) f m ft else none
   |_=>k .gF f m []
  |v=>k v f m []
 |.pick c a b=>match bA E f c with
  |.pv (.bool t)=>if t then k (bA E f a) f m []else k (bA E f b) f m []
  |_=>none
 |.alloc t=>match c7 E t with
  |some cs=>bif E.zO site then(match E.P.underlying t,pe pvO cs with
   |some (.array n e),some ps=>if ay E.P e=true∧n*aR E.P e=aR E.P t∧0<aR E.P e∧n≤16777216 then fresh draw site (.arr (aR E.P e) e (ff (aR E.P e) n (.agg ps))) f m fun f m ft=>k (.oe site 0 0) f m ft else none
   |_,_=>none)
   else if !draw&&aa2 E t then wo E site [t] 0 (uj cs.length cs f) m fun F m=>fresh false site (.box ((List.range cs.length).map F)) (uI cs.length F) m fun f m ft=>k (.op site 0) f m ft
   else fresh draw site (.box cs) f m fun f m ft=>k (.op site 0) f m ft
  |none=>none
 |.box t x=>match toCells (aR E.P t) (bA E f x)with
  |some cs=>if !draw&&cs.any Sx then(match Cr E.P 8 t with
   |some ts=>if ts.length=cs.length then wo E site ts 0 (uj cs.length cs f) m fun F m=>fresh false site (.box ((List.range cs.length).map F)) (uI cs.length F) m fun f m ft=>k (.op site 0) f m ft else none
   |none=>none)else fresh draw site (.box cs) f m fun f m ft=>k (.op site 0) f m ft
  |none=>none
 |.build t parts=>zU E t (parts.toList.map fun(i,x)=>(i,bA E f x)) fun v=>k v f m []
 |.buildSlice t len parts=>match E.P.underlying t with
  |some (.slice e)=>if Pb E e then(match Cp 0 (parts.toList.map fun(i,x)=>(i,bA E f x))with
   |some cs=>if parts.size=len∧aR E.P e=1∧len≤16777216∧(c7 E e).isSome=true then fresh draw site (.box cs) f m fun f m ft=>k (.os site) f m ft else none
   |none=>none)
   else if E.zO (site+1000000000000000000000000000000)then(match eR cW (aR E.P e) (ay E.P e) 0 (parts.toList.map fun(i,x)=>(i,bA E f x))with
   |some (es,_)=>if es.length=len∧0<aR E.P e∧len*aR E.P e≤16777216∧(c7 E e).isSome=true then k (.pv (.rs (aR E.P e) es)) f m []else none
   |none=>none)
   else match eR (if draw then cW else m) (aR E.P e) (ay E.P e) 0 (parts.toList.map fun(i,x)=>(i,bA E f x))with
   |some (es,m1)=>if es.length=len∧0<aR E.P e∧len*aR E.P e≤16777216∧(c7 E e).isSome=true then fresh draw site (.arr (aR E.P e) e es) f (if draw then m else m1) fun f m ft=>k (.os site) f m ft else none
   |none=>none
  |_=>none
 |.load t a=>oU E (E.zO site) t (bA E f a) m fun v ft=>k v f m ft
 |.store t a x=>rG E draw t (bA E f a) (bA E f x) m fun m ft=>k .top f m ft
 |.nilCheck x=>match bA E f x with
  |.pv (.rp cs)=>k (.pv (.rp cs)) f m []
  |.op id off=>k (.op id off) f m []
  |.oe id i off=>k (.oe id i off) f m []
  |.yL id i off s j off2=>k (.yL id i off s j off2) f m []
  |.fn g cs=>k (.fn g cs) f m []
  |.pv (.fn g cs)=>k (.pv (.fn g cs)) f m []
  |_=>none
 |.binOp op t x y _=>match bA E f x,bA E f y with
  |.pv (.rs _ es),.gF=>if draw then none else La E op t es fun b=>k (.pv (.bool b)) f m [(true,0)]
  |a,b=>Ic E op t y a b fun p=>k (.pv p) f m []
 |.unOp op _ x=>xun op (bA E f x) fun p=>k (.pv p) f m []
 |.convert s d x=>zS E s d (bA E f x) m fun p ft=>k (.pv p) f m ft
 |.makeFunc (.func g) first caps=>bif Nat.blt g Cj then(if first.isEmpty then k (.fn g (caps.toList.map (bA E f))) f m []else if caps.isEmpty then k (.fn (g+Cj) (first.toList.map (bA E f))) f m []else none)else none
 |.makeMap t hint=>if GA E f hint=true then match E.P.underlying t with
  |some (.map kt et)=>if(rj E.P kt).isSome then(if E.zO site then(match E.P.underlying et with
   |some (.slice e)=>fresh draw site (.eY kt e []) f m fun f m ft=>k (.om site) f m ft
   |_=>none)
   else fresh draw site (.map kt []) f m fun f m ft=>k (.om site) f m ft)else none
  |_=>none
  else none
 |.makeSlice t l c=>pL E draw site t (bA E f l) (bA E f c) f m k
 |.slice t x lo hi mx=>ti E t (bA E f x) (lo.map (bA E f)) (hi.map (bA E f)) (mx.map (bA E f)) m fun v ft=>k v f m ft
 |.fieldAddr s x j=>jH E s (bA E f x) j fun v=>k v f m []
 |.field s x j=>Co E s (bA E f x) j fun v=>k v f m []
 |.indexAddr t x ix=>cZ E t (bA E f x) (bA E f ix) m fun v ft=>k v f m ft
 |.index t x ix=>zT E t (bA E f x) (bA E f ix) fun v=>k v f m []
 |.lookup t x ix ok=>if E.zO site&& !ok then Ig E site t (bA E f x) (bA E f ix) m fun v m ft=>k v f m ft else tl E t (bA E f x) (bA E f ix) ok m fun v ft=>k v f m ft
 |.mapUpdate t x key v=>mY E draw t (bA E f x) (bA E f key) (bA E f v) m fun m ft=>k .top f m ft
 |.insert t x key v=>mY E draw t (bA E f x) (bA E f key) (bA E f v) m fun m ft=>k .top f m ft
 |.range t x=>if draw then none else Lc E site t (bA E f x) f m fun v f m=>k v f m [(true,0)]
 |.next x s=>if draw||s then none else Sy E (bA E f x) f m fun v f m=>k v f m [(true,0)]
 |.entry x=>if draw then none else Ld (bA E f x) m fun v m=>k v f m [(true,0)]
 |.extract t i=>match bA E f t with
  |.bn vs=>match vs[i]? with
   |some v=>k v f m []
   |none=>none
  |_=>none
 |.call c=>match c.callee,c.args.toList.map (bA E f)with
  |.builtin .len,[x]=>match c.argTypes.toList with
   |[t]=>Ie E t x m fun v ft=>k v f m ft
   |_=>none
  |.builtin .append,[s,x]=>match c.argTypes.toList with
   |[t,t']=>yQ E draw site t t' s x f m fun v f m=>k v f m [(true,0)]
   |_=>none
  |.builtin .copy,[d,x]=>match c.argTypes.toList with
   |t::_=>Ih E t d x m fun v m ft=>k v f m ft
   |_=>none
  |.builtin .clear,[x]=>match c.argTypes.toList with
   |t::_=>Cq E t x m fun v m ft=>k v f m ft
   |_=>none
  |.builtin .min,[a,b]=>Ii a b fun p=>k (.pv p) f m []
  |.builtin .max,[a,b]=>AY a b fun p=>k (.pv p) f m []
  |.builtin .max,[a,b,c,d]=>Ij a b c d fun p=>k (.pv p) f m []
  |.value (.func g),args=>ui E draw site g args f m k
  |.value (.tmp t),args=>match bA E f (.tmp t)with
   |.fn g caps=>ui E draw site (uk g) (xD g caps args) f m k
   |.pv (.fn g caps)=>ui E draw site (uk g) (xD g (caps.map .pv) args) f m k
   |.yl id=>if draw then none else E.yl R E.fn.ntmps site id args f m fun v f m=>k v f m [(true,0)]
   |_=>none
  |_,_=>none
 |_=>none
noncomputable def Ik(draw:Bool)(site:Nat)(o:Oper)(f:Fr)(m:Mem)(k:V→Fr→Mem→bp→Option R):Option R:=
 match(bif draw then none else bif E.zO site then xC E site o f m else none)with
 |some sp=>XK E site sp f m k
 |none=>cC E draw site o f m k
def eZ(o:Oper):Bool:=
 match o.op with
 |.move _|.assign _|.pick .. |.load .. |.nilCheck _|.binOp .. |.unOp .. |.convert .. |.slice .. |.fieldAddr .. |.field .. |.indexAddr .. |.index .. |.lookup .. |.extract .. |.build .. =>true
 |.call {callee:=.builtin .len,.. }|.call {callee:=.builtin .min,.. }|.call {callee:=.builtin .max,.. }=>true
 |.call {callee:=.value _,.. }=>true
 |_=>false
def yR:bp→Bool
 |[]=>true
 |(w,_)::r=> !w&&yR r
abbrev Log:=List (Nat×Bool×Nat)
def Cs(o:Oper)(j:Nat):Bool:=o.after.toList.any fun e=>Region.binds .any e&&Nat.beq e.on j
mutual
def V.ids:V→List Nat
 |.agg cs=>Il cs
 |.bn cs=>Il cs
 |.fn _ cs=>Il cs
 |.os j=>[j]
 |.fx j _ _=>[j]
 |.oe j _ _=>[j]
 |.om j=>[j]
 |.uF j _ _=>[j]
 |.yL j _ _ _ _ _=>[j]
 |.op j _=>[j]
 |.yl j=>[j]
 |.it j=>[j]
 |_=>[]
def Il:List V→List Nat
 |[]=>[]
 |v::r=>v.ids++Il r
end
def Ct:Option bF→List Nat
 |some (.box cs)=>Il cs
 |_=>[]
def wq(n:Nat):Nat:=n+2037035976334486086268445688409378161051468393665936250636140449354381299763336706183397376
def GB(m m':Mem):bp→List Nat
 |[]=>[]
 |x::r=>Ct (m x.2)++Ct (m' x.2)++GB m m' r
def BZ(ops:Array Oper)(o:Oper)(f:Fr)(m m':Mem)(v:V)(ft:bp):List Nat:=Il ((o.looksAt ops).map f)++v.ids++GB m m' ft
def cD(E:Env)(d:Option Nat):Nat:=match d with|some d=>E.fid*4096+d|none=>E.fid*4096+4095
def isApp(E:Env)(o:Oper):Bool:=E.zO (cD E o.dst)||match o.op with|.call {callee:=.builtin .append,.. }=>true|_=>false
def tp(E:Env)(f:Fr)(m:Mem)(o:Oper):Option (Nat×bp):=
 match o.op with
 |.call c=>match c.callee,c.args.toList.map (bA E f),c.argTypes.toList with
  |.builtin .append,[.os id,x],[t,_]=>match E.P.underlying t with
   |some (.slice e)=>match eA m (aR E.P e) x with
    |some (_,rd)=>if x.has id then none else some (id,rd)
    |none=>none
   |_=>none
  |_,_,_=>none
 |_=>none
def GC(E:Env)(f:Fr)(m:Mem)(o:Oper):Option (Kl×bp):=
 match(bif E.zO (cD E o.dst)then xC E (cD E o.dst) o f m else none)with
 |some sp=>some (sp.info (cD E o.dst))
 |none=>match tp E f m o with
  |some (id,rd)=>some ([(true,id)],(true,id)::rd)
  |none=>none
def reach(ops:Array Oper):Nat→Oper→Nat→Bool
 |0,o,j=>Cs o j
 |n+1,o,j=>Cs o j||o.after.toList.any fun e=>Region.binds .any e&&match ops[e.on]? with|some p=>reach ops n p j|none=>false
def Pc(ops:Array Oper)(o:Oper)(w:Bool)(id:Nat):Log→Bool
 |[]=>true
 |(j,w',qY)::r=>(!(Nat.beq id qY)||(!w&& !w')||reach ops 4 o j)&&Pc ops o w id r
def zW(ops:Array Oper)(o:Oper)(lg:Log):bp→Bool
 |[]=>true
 |(w,id)::r=>Pc ops o w id lg&&zW ops o lg r
def B0(ops:Array Oper)(o:Oper)(id:Nat):Log→Bool
 |[]=>true
 |(j,_,n)::r=>(!(Nat.beq n (wq id))||reach ops 4 o j)&&B0 ops o id r
def wu(ops:Array Oper):List (Nat×Oper)→Oper→Bool
 |[],_=>true
 |(j,p)::r,o=>(p.apart ops o||reach ops 4 o j)&&wu ops r o
def nD(ops:Array Oper):List (Nat×Oper)→List (Nat×Oper)→Bool
 |_,[]=>true
 |done,(i,o)::r=>o.after.toList.all (fun e=> !(Region.binds .any e)||Nat.blt e.on i)&&wu ops done o&&nD ops ((i,o)::done) r
def guardOf(o:Oper)(A:List (Nat×Bool)):Option (Nat×Bool):=
 match o.guard with
 |none=>none
 |some g=>if A.elem g then none else some g
def AZ(A:List (Nat×Bool)):List (Nat×Oper)→List (Nat×Oper)×List (Nat×Oper)
 |[]=>([],[])
 |x::r=>match guardOf x.2 A with
  |some _=>let(a,b):=AZ A r;(x::a,b)
  |none=>([],x::r)
def lU(f:Fr):List (Nat×Oper)→Fr
 |[]=>f
 |x::r=>lU (iE f x.2.dst .top) r
def uJ(g:Nat×Bool):List Nat→List (Nat×Oper)→Bool
 |_,[]=>true
 |done,x::r=>(match x.2.guard with
  |some h=>(Nat.beq h.1 g.1&&(h.2==g.2))||done.elem h.1
  |none=>false)&&uJ g (x.1::done) r
def blind(ops:Array Oper)(body:List (Nat×Oper))(o:Oper):Bool:=body.all fun y=>match y.2.dst with
  |some d=> !((o.looksAt ops).elem d)
  |none=>true
def EY:Bool→Bool→Bool
 |true,b=>b
 |false,b=> !b
def ij(f:Fr):List (Nat×Oper)→Fr
 |[]=>f
 |x::r=>ij (iE f x.2.dst (.bn [])) r
def wZ:V→Option Bool
 |.pv (.bool b)=>some b
 |_=>none
end
def uK(E:Env)(o:Oper):Bool:=match o.dst with|some d=>Nat.blt d E.fn.ntmps|none=>true
def GD(E:Env)(g:FuncId):Bool:=match E.P.funcs[g]? with|some fn=>fn.resultTypes.toList.all (tn E)|none=>false
def VO(E:Env)(f:Fr)(body:List (Nat×Oper))(o:Oper):Bool:=
 eZ o&&match o.op with
 |.call {callee:=.value (.func g),.. }=>(E.ctx g).isSome&&GD E g
 |.call {callee:=.value (.tmp t),.. }=>match(match body.find? (fun x=>x.2.dst==some t)with
  |some (_,p)=>(match p.op with
   |.move y=>bA E f y
   |.assign y=>bA E f y
   |_=>.top)
  |none=>bA E f (.tmp t))with
  |.fn g _=>(E.ctx (uk g)).isSome&&GD E (uk g)
  |.pv (.fn g _)=>(E.ctx (uk g)).isSome&&GD E (uk g)
  |.yl _=>false
  |_=>true
 |_=>true
noncomputable def cg(E:Env)(ops:Array Oper)(mode:Nat):(fuel:Nat)→(R:Type)→List (Nat×Bool)→List (Nat×Oper)→Fr→Mem→Log→(Fr→Mem→Option R)→Option R
 |0,_,_,_,_,_,_,_=>none
 |_+1,_,_,[],f,m,_,k=>k f m
 |fuel+1,R,A,(i,o)::rest,f,m,lg,k=>
  match guardOf o A with
  |none=>
   if uK E o then
    match(bif Nat.beq mode 2 then GC E f m o else none)with
    |some (kl,ft)=>
     if zW ops o lg ft&&kl.all (fun x=>B0 ops o x.2 lg)&&rest.all (fun x=>reach ops 4 x.2 i)then Ik E false (cD E o.dst) o f m fun v f1 m1 _=>cg E ops mode fuel R A rest (iE f1 o.dst v) m1 (ft.map (fun x=>(i,x))++lg) k
     else none
    |none=>Ik E (Nat.beq mode 1||Nat.beq mode 2) (cD E o.dst) o f m fun v f1 m1 ft=>
      if Nat.beq mode 2 then(if zW ops o lg ft then cg E ops mode fuel R A rest (iE f1 o.dst v) m1 ((bif ops.toList.any (isApp E)then(BZ ops o f m m1 v ft).map (fun n=>(i,false,wq n))else[])++(ft.map (fun x=>(i,x))++lg)) k else none)
      else if Nat.beq mode 0 then cg E ops mode fuel R A rest (iE f1 o.dst v) m1 lg k
      else if yR ft then cg E ops mode fuel R A rest (iE f1 o.dst v) m1 lg k
      else none
   else none
  |some (j,A0)=>
   match((ops[j]?).bind (·.dst))with
   |some tj=>match bA E f (.tmp tj)with
    |.pv (.bool b)=>
     match AZ A ((i,o)::rest)with
     |(body,Im)=>
     if Nat.beq mode 0&& !(body.all fun x=>VO E f body x.2)then
      (if(body.all fun x=>uK E x.2)&&uJ (j,A0) [] body&&((i,o)::rest).all (fun x=> !(x.2.dst==some tj))then
       bif EY A0 b then cg E ops mode fuel R ((j,A0)::A) ((i,o)::rest) (fY f tj (.pv (.bool A0))) m lg k
       else cg E ops mode fuel R A Im (ij (fY f tj (.pv (.bool !A0))) body) m lg k
      else none)
     else match Im with
     |(_,p)::lV=>
      match p.op with
      |.pick (.tmp c) x y=>
       if Nat.beq c tj&&(guardOf p A).isNone&&body.all (fun x=>eZ x.2&&uK E x.2&& !(x.2.dst==some tj))&&uJ (j,A0) [] body&&lV.all (fun x=>blind ops body x.2)&&uK E p&& !(Nat.beq mode 2)then
        (match A0 with
         |true=>bif b then cg E ops (bif Nat.beq mode 0 then 3 else mode) fuel Bool ((j,A0)::A) body f m lg (fun f _=>wZ (bA E f x))else wZ (bA E (lU f body) y)
         |false=>bif b then wZ (bA E (lU f body) x)else cg E ops (bif Nat.beq mode 0 then 3 else mode) fuel Bool ((j,A0)::A) body f m lg (fun f _=>wZ (bA E f y))).bind fun r=>
        cg E ops mode fuel R A lV (iE (lU f body) p.dst (.pv (.bool r))) m lg k
       else none
      |_=>none
     |[]=>none
    |_=>none
   |none=>none
inductive Ex where
 |normal
 |exit (id:Nat)
 |ret
def Io{R:Type}(body:Fr→Mem→(Fr→Mem→Option R)→Option R):Nat→Fr→Mem→Option R
 |0,_,_=>none
 |n+1,f,m=>body f m (Io body n)
def wv:Code→Nat
 |.region id _ _=>id
 |.seq a _=>wv a
 |.cond _ a _=>wv a
 |.block _ b=>wv b
 |.loop b=>wv b
 |.scope b=>wv b
 |_=>0
def Pd:List Sh→Type→Type
 |[],T=>T
 |.raw::r,T=>PV×Pd r T
 |.int _::r,T=>Int×Pd r T
 |.bool::r,T=>Bool×Pd r T
 |.str::r,T=>Bytes×Pd r T
 |.rs _::r,T=>List PV×Pd r T
 |.rp _::r,T=>PV×Pd r T
 |.fs _::r,T=>List PV×Pd r T
 |.row _ _::r,T=>Int×Pd r T
 |.own _::r,T=>Pd r T
def H5:List (Nat×Ss)→Type
 |[]=>Unit
 |(_,.box cs)::r=>Pd cs (H5 r)
 |(_,.arr _ _)::r=>List PV×H5 r
 |(_,.pt _ _)::r=>List PV×H5 r
 |(_,.map _)::r=>List (PV×PV)×H5 r
 |(_,.nest _ _)::r=>List PV×H5 r
 |(_,.eY _ _)::r=>List (PV×PV)×H5 r
 |(_,.loop)::r=>H5 r
 |(_,.busy)::r=>H5 r
 |(_,.iter _)::r=>List (PV×PV)×H5 r
def eW.jo(T:eW):List Sh:=T.ax.map Prod.snd
abbrev eW.ty(T:eW):Type:=Pd T.jo (H5 T.bE)
mutual
def V.same:V→V→Bool
 |.op i o,.op j p=>Nat.beq i j&&Nat.beq o p
 |.oe i a o,.oe j b p=>Nat.beq i j&&Nat.beq a b&&Nat.beq o p
 |.os i,.os j=>Nat.beq i j
 |.om i,.om j=>Nat.beq i j
 |.yl i,.yl j=>Nat.beq i j
 |.it i,.it j=>Nat.beq i j
 |.gF,.gF=>true
 |.pv .o9,.pv .o9=>true
 |.pv .ux,.pv .ux=>true
 |.pv (.int q x),.pv (.int q' y)=>decide (q=q')&&decide (x=y)
 |.fn f cs,.fn g ds=>Nat.beq f g&&EZ cs ds
 |_,_=>false
def EZ:List V→List V→Bool
 |[],[]=>true
 |a::as,b::bs=>a.same b&&EZ as bs
 |_,_=>false
end
section
variable {R:Type}
def jq{T:Type}:(jo:List Sh)→List V→T→(Pd jo T→Option R)→Option R
 |[],[],t,k=>k t
 |.int q::jo,.pv (.int q' n)::vs,t,k=>if q'=q then jq jo vs t (fun r=>k (n,r))else none
 |.raw::jo,.pv p::vs,t,k=>jq jo vs t (fun r=>k (p,r))
 |.bool::jo,.pv (.bool b)::vs,t,k=>jq jo vs t (fun r=>k (b,r))
 |.str::jo,.pv (.str s)::vs,t,k=>jq jo vs t (fun r=>k (s,r))
 |.rs sz::jo,.pv (.rs En es)::vs,t,k=>if En=sz then jq jo vs t (fun r=>k (es,r))else none
 |.rp n::jo,.pv (.rp cs)::vs,t,k=>if cs.length=n then jq jo vs t (fun r=>k (.agg cs,r))else none
 |.fs s::jo,.pv p::vs,t,k=>(VN s p).bind fun ls=>jq jo vs t (fun r=>k (ls,r))
 |.row id off::jo,.uF qY i rH::vs,t,k=>if qY=id∧rH=off then jq jo vs t (fun r=>k ((i:Int),r))else none
 |.own v::jo,u::vs,t,k=>if v.same u then jq jo vs t k else none
 |_,_,_,_=>none
def sr(m:Mem):(bs:List (Nat×Ss))→(H5 bs→Option R)→Option R
 |[],k=>k ()
 |(id,.box cs)::r,k=>match m id with
  |some (.box vs)=>sr m r fun t=>jq (T:=H5 r) cs vs t k
  |_=>none
 |(id,.arr sz et)::r,k=>match m id with
  |some (.arr En Eo es)=>if En=sz∧Eo=et then sr m r fun t=>k (es,t)else none
  |_=>none
 |(id,.pt sz et)::r,k=>match m id with
  |some (.pt En Eo es)=>if En=sz∧Eo=et then sr m r fun t=>k (es,t)else none
  |_=>none
 |(id,.map kt)::r,k=>match m id with
  |some (.map uz es)=>if uz=kt then sr m r fun t=>k (es,t)else none
  |_=>none
 |(id,.nest sz et)::r,k=>match m id with
  |some (.nest En Eo es)=>if En=sz∧Eo=et then sr m r fun t=>k (es,t)else none
  |_=>none
 |(id,.eY kt e)::r,k=>match m id with
  |some (.eY uz e' es)=>if uz=kt∧e'=e then sr m r fun t=>k (es,t)else none
  |_=>none
 |(id,.loop)::r,k=>match m id with
  |some (.loop .ready)=>sr m r k
  |_=>none
 |(id,.busy)::r,k=>match m id with
  |some (.loop .busy)=>sr m r k
  |_=>none
 |(id,.iter t)::r,k=>match m id with
  |some (.iter t' es none)=>if t'=t then sr m r fun u=>k (es,u)else none
  |_=>none
def Sh.within(M:List Nat):Sh→Bool
 |.own v=>v.within M
 |.row id _=>M.elem id
 |_=>true
def Ss.within(M:List Nat):Ss→Bool
 |.box cs=>cs.all (·.within M)
 |_=>true
def eW.ok(T:eW):Bool:=T.ax.all (fun x=>x.2.within (T.bE.map (·.1)))&&T.bE.all (fun x=>x.2.within (T.bE.map (·.1)))
def Cu:List Sh→List V→Bool
 |[],[]=>true
 |.raw::jo,.pv _::vs=>Cu jo vs
 |.int q::jo,.pv (.int q' _)::vs=>decide (q'=q)&&Cu jo vs
 |.bool::jo,.pv (.bool _)::vs=>Cu jo vs
 |.str::jo,.pv (.str _)::vs=>Cu jo vs
 |.rs sz::jo,.pv (.rs En _)::vs=>Nat.beq En sz&&Cu jo vs
 |.rp n::jo,.pv (.rp cs)::vs=>Nat.beq cs.length n&&Cu jo vs
 |.fs s::jo,.pv p::vs=>(VN s p).isSome&&Cu jo vs
 |.row id off::jo,.uF qY _ rH::vs=>Nat.beq qY id&&Nat.beq rH off&&Cu jo vs
 |.own v::jo,u::vs=>v.same u&&Cu jo vs
 |_,_=>false
def Ey(m:Mem):List (Nat×Ss)→Bool
 |[]=>true
 |(id,.box cs)::r=>(match m id with|some (.box vs)=>Cu cs vs|_=>false)&&Ey m r
 |(id,.arr sz _)::r=>(match m id with|some (.arr En _ _)=>Nat.beq En sz|_=>false)&&Ey m r
 |(id,.pt sz _)::r=>(match m id with|some (.pt En _ _)=>Nat.beq En sz|_=>false)&&Ey m r
 |(id,.map _)::r=>(match m id with|some (.map _ _)=>true|_=>false)&&Ey m r
 |(id,.nest sz _)::r=>(match m id with|some (.nest En _ _)=>Nat.beq En sz|_=>false)&&Ey m r
 |(id,.eY _ _)::r=>(match m id with|some (.eY _ _ _)=>true|_=>false)&&Ey m r
 |(id,.loop)::r=>(match m id with|some (.loop .ready)=>true|_=>false)&&Ey m r
 |(id,.busy)::r=>(match m id with|some (.loop .busy)=>true|_=>false)&&Ey m r
 |(id,.iter _)::r=>(match m id with|some (.iter _ _ none)=>true|_=>false)&&Ey m r
def fits(f:Fr)(m:Mem)(T:eW):Bool:=Ey m T.bE&&Cu T.jo (T.ax.map fun(x:Nat×Sh)=>f x.1)
def enc(T:eW)(f:Fr)(m:Mem)(k:T.ty→Option R):Option R:=if T.ok then sr m T.bE fun t=>jq (T:=H5 T.bE) T.jo (T.ax.map fun(x:Nat×Sh)=>f x.1) t k else none
end
def qZ{T:Type}:(jo:List Sh)→Pd jo T→List V×T
 |[],t=>([],t)
 |.int q::jo,x=>let r:=qZ jo x.2;(.pv (.int q x.1)::r.1,r.2)
 |.raw::jo,x=>let r:=qZ jo x.2;(.pv x.1::r.1,r.2)
 |.bool::jo,x=>let r:=qZ jo x.2;(.pv (.bool x.1)::r.1,r.2)
 |.str::jo,x=>let r:=qZ jo x.2;(.pv (.str x.1)::r.1,r.2)
 |.rs sz::jo,x=>let r:=qZ jo x.2;(.pv (.rs sz x.1)::r.1,r.2)
 |.rp n::jo,x=>let r:=qZ jo x.2;(.pv (.rp (aC n x.1))::r.1,r.2)
 |.fs s::jo,x=>let r:=qZ jo x.2;(.pv (Gx s ((List.range s.n).map fun j=>x.1.getD j .bad)).1::r.1,r.2)
 |.row id off::jo,x=>let r:=qZ jo x.2;(.uF id x.1.toNat off::r.1,r.2)
 |.own v::jo,x=>let r:=qZ (T:=T) jo x;(v::r.1,r.2)
def gx:(bs:List (Nat×Ss))→H5 bs→List (Nat×Option bF)
 |[],_=>[]
 |(id,.box cs)::r,x=>let y:=qZ (T:=H5 r) cs x;(id,some (.box y.1))::gx r y.2
 |(id,.arr sz et)::r,x=>(id,some (.arr sz et x.1))::gx r x.2
 |(id,.pt sz et)::r,x=>(id,some (.pt sz et x.1))::gx r x.2
 |(id,.map kt)::r,x=>(id,some (.map kt x.1))::gx r x.2
 |(id,.nest sz et)::r,x=>(id,some (.nest sz et x.1))::gx r x.2
 |(id,.eY kt e)::r,x=>(id,some (.eY kt e x.1))::gx r x.2
 |(id,.loop)::r,x=>(id,some (.loop .ready))::gx (r:List (Nat×Ss)) x
 |(id,.busy)::r,x=>(id,some (.loop .busy))::gx (r:List (Nat×Ss)) x
 |(id,.iter t)::r,x=>(id,some (.iter t x.1 none))::gx r x.2
def pM:List (Nat×Sh)→List V→List (Nat×V)
 |(t,_)::r,v::vs=>(t,v)::pM r vs
 |_,_=>[]
def Lf(T:eW)(x:T.ty):Fr:=K9 (pM T.ax (qZ (T:=H5 T.bE) T.jo x).1)
def Cv(T:eW)(x:T.ty):Mem:=Ci (gx T.bE (qZ (T:=H5 T.bE) T.jo x).2)
def A1{A:Type}:List (Nat×Nat)→Fr→Mem→(Fr→Mem→A)→A
 |[],f,m,k=>k f m
 |(t,sz)::r,f,m,k=>match f t with
  |.os id=>match m id with
   |some (.arr s et es)=>A1 r (fY f t (.pv (.rs s es))) (al m id (.pt s et es)) k
   |some (.pt s _ es)=>A1 r (fY f t (.pv (.rs s es))) m k
   |_=>A1 r f m k
  |.gF=>A1 r (fY f t (.pv (.rs sz []))) m k
  |_=>A1 r f m k
def E0{A:Type}:List (Nat×Nat×Nat)→Mem→(Mem→A)→A
 |[],m,k=>k m
 |(id,j,sz)::r,m,k=>match m id with
  |some (.box cs)=>match cs[j]? with
   |some .gF=>E0 r (al m id (.box (cs.set j (.pv (.rs sz []))))) k
   |_=>E0 r m k
  |_=>E0 r m k
def A2{A:Type}(P:Program):List (Nat×Nat×Nat×TypeId)→Mem→(Mem→A)→A
 |[],m,k=>k m
 |(id,j,Sz,et)::r,m,k=>match m id with
  |some (.box cs)=>match cs[j]? with
   |some .gF=>match m Sz with
    |none=>if 0<aR P et then A2 P r (al (al m Sz (.arr (aR P et) et [])) id (.box (cs.set j (.os Sz)))) k else A2 P r m k
    |some _=>A2 P r m k
   |_=>A2 P r m k
  |_=>A2 P r m k
def Ip{A:Type}:List Nat→Mem→(Mem→A)→A
 |[],m,k=>k m
 |id::r,m,k=>match m id with
  |some (.arr s et es)=>Ip r (al m id (.nest s et es)) k
  |_=>Ip r m k
def A3{A:Type}:List (Nat×Nat)→Fr→Mem→(Fr→Mem→A)→A
 |[],f,m,k=>k f m
 |(id,j)::r,f,m,k=>match m id with
  |some (.box cs)=>match cs[j]? with
   |some (.fx a 0 len)=>match m a with
    |some (.arr s et es)=>if Nat.beq a id then A3 r f m k else A3 r (eL a f) (al (al (bl (bB a m) a) a (.arr s et (es.take len))) id (.box ((cs.map (rn a)).set j (.os a)))) k
    |_=>A3 r f m k
   |_=>A3 r f m k
  |_=>A3 r f m k
def E1{A:Type}(P:Program)(T:eW)(f:Fr)(m:Mem)(k:Fr→Mem→A):A:=A3 T.ct f m fun f m=>A2 P T.bo m fun m=>E0 T.bz m fun m=>Ip T.nz m fun m=>A1 T.fz f m k
variable{R:Type}
def Ex.Iq(k1:Fr→Mem→Option R)(k:Ex→Fr→Mem→Option R):Ex→Fr→Mem→Option R
 |.normal,f,m=>k1 f m
 |e,f,m=>k e f m
def Ex.SA(id:Nat)(k:Ex→Fr→Mem→Option R):Ex→Fr→Mem→Option R
 |.exit j,f,m=>if j=id then k .normal f m else k (.exit j) f m
 |e,f,m=>k e f m
def Ex.jmp:Ex→Option Jmp
 |.normal=>none
 |.exit id=>some (.exit id)
 |.ret=>some .ret
def Jmp.ex:Jmp→Ex
 |.ret=>.ret
 |.exit id=>.exit id
def Pe(n:Nat)(g f:Fr):Fr:=fun t=>bif Nat.blt t n then g t else f (t-n)
def Cw:List Nat→List V→Fr→Fr
 |p::ps,v::vs,f=>Cw ps vs (fY f p v)
 |_,_,f=>f
def roundOf(as b:Fr→Mem→(Ex→Fr→Mem→Option R)→Option R)(lid n:Nat)(ps:List Nat)(nt:Nat)(args:List V)(F:Fr)(m:Mem)(k:V→Fr→Mem→Option R):Option R:=
 match m lid with
 |some (.loop .ready)=>if args.length=ps.length then
  as (Pe n (Cw ps args (uI nt F)) F) m fun e f m=>match e,m lid with
   |.normal,some (.loop .ready)=>b f (al m lid (.loop .busy)) fun e f m=>match m lid with
    |some (.loop .busy)=>match e.jmp with
     |none=>k (.pv (.bool true)) (uI n f) (al m lid (.loop .ready))
     |some j=>k (.pv (.bool false)) (uI n f) (al m lid (.loop (.done j)))
    |_=>none
   |_,_=>none
  else none
 |_=>none
def YY:V→Option (FuncId×List V)
 |.fn g caps=>bif Nat.blt g Cj then some (g,caps)else none
 |.pv (.fn g caps)=>bif Nat.blt g Cj then some (g,caps.map .pv)else none
 |_=>none
def aa3(E:Env)(o:Oper):Bool:=match o.op with
 |.call c=>match c.callee with
  |.value (.func g)=>(E.ctx g).isNone&&(E.own g).isNone
  |_=>false
 |_=>false
def aa4(E:Env)(o:Oper):Bool:=match o.op with
 |.call c=>match c.callee with
  |.value (.func g)=>(E.ctx g).isNone&&(E.own g).isSome
  |_=>false
 |_=>false
def VP(E:Env)(ops:Array Oper):Option Nat:=ops.toList.findIdx? (aa3 E)
def SB(ops:Array Oper)(p:Nat):Bool:=match ops[p]? with
 |none=>false
 |some o=>o.guard.isNone&&o.after.toList.all (fun e=> !(Region.binds .any e)||Nat.blt e.on p)&&((List.range ops.size).zip ops.toList).all fun x=>bif Nat.blt x.1 p then reach ops 8 o x.1 else Nat.beq x.1 p||reach ops 8 x.2 p
noncomputable def fj:(E:Env)→{R:Type}→Code→Fr→Mem→(Ex→Fr→Mem→Option R)→Option R
 |E,_,.skip,f,m,k=>k .normal f m
 |E,R,.region _ ops draw,f,m,k=>
  if draw then
   match VP E ops with
   |some p=>if SB ops p&&nD ops [] (((List.range ops.size).zip ops.toList).take p)&&nD ops [] (((List.range ops.size).zip ops.toList).drop (p+1))then
     cg E ops 2 (ops.size+1) R [] (((List.range ops.size).zip ops.toList).take p) f m [] fun f m=>
     cg E ops 0 3 R [] ((((List.range ops.size).zip ops.toList).drop p).take 1) f m [] fun f m=>
     cg E ops 2 (ops.size+1) R [] (((List.range ops.size).zip ops.toList).drop (p+1)) f m [] fun f m=>k .normal f m
    else none
   |none=>
   (if nD ops [] ((List.range ops.size).zip ops.toList)then
    (if ops.toList.all (fun o=>eZ o&& !aa4 E o)then cg E ops 1 (ops.size+1) R [] ((List.range ops.size).zip ops.toList) f m [] fun f m=>k .normal f m
    else cg E ops 2 (ops.size+1) R [] ((List.range ops.size).zip ops.toList) f m [] fun f m=>k .normal f m)
   else none)
  else cg E ops 0 (ops.size+ops.size+1) R [] ((List.range ops.size).zip ops.toList) f m [] fun f m=>k .normal f m
 |E,R,.seq a b,f,m,k=>fj E a f m (Ex.Iq (fun f m=>fj E b f m k) k)
 |E,R,.cond c a b,f,m,k=>match c,bA E f c with
  |.tmp x,.pv (.bool t)=>if t then fj E a (fY f x (.pv (.bool true))) m k else fj E b (fY f x (.pv (.bool false))) m k
  |_,_=>none
 |E,R,.block id b,f,m,k=>fj E b f m (Ex.SA id k)
 |E,R,.loop b,f,m,k=>match(E.hint E.fid (wv b)).find? (fun T=>E1 E.P T f m fun f m=>fits f m T)with
  |some T=>E1 E.P T f m fun f m=>enc T f m (E.lp.run fun s rec=>fj E b (Lf T s) (Cv T s) (Ex.Iq (fun f m=>E1 E.P T f m fun f m=>enc T f m rec) k))
  |none=>Io (fun f m rec=>fj E b f m (Ex.Iq rec k)) E.u f m
 |E,R,.exit id,f,m,k=>k (.exit id) f m
 |E,R,.ret,f,m,k=>k .ret f m
 |E,R,.label _,f,m,k=>k .normal f m
 |E,R,.scope b,f,m,k=>fj E b f m k
 |E,R,.rangeFunc g ps as b,f,m,k=>if E.YX then none else match ps.toList with
  |p0::_=>fresh true (cD E (some p0)) (.loop .ready) f m fun f m _=>match YY (bA E f g)with
   |some (gid,caps)=>E.YW R gid (cD E (some p0)*4096+gid) (fun _ nt site id args F m k=>bif Nat.beq id (cD E (some p0))then
     roundOf (fj {E with fid:=site*4096+E.fid%4096,yl:=zN,YX:=true} as) (fj {E with fid:=site*4096+E.fid%4096,yl:=zN,YX:=true} b) (cD E (some p0)) E.fn.ntmps ps.toList nt args F m k
     else none)
    (.yl (cD E (some p0))::caps) f m fun _ f m=>match m (cD E (some p0))with
     |some (.loop .ready)=>k .normal (eL (cD E (some p0)) f) (bl (bB (cD E (some p0)) m) (cD E (some p0)))
     |some (.loop (.done j))=>k j.ex (eL (cD E (some p0)) f) (bl (bB (cD E (some p0)) m) (cD E (some p0)))
     |_=>none
   |_=>none
  |[]=>none
 |_,_,_,_,_,_=>none
def yS(E:Env){R:Type}(f:Fr)(m:Mem):List ResultVar→(List V→Option R)→Option R
 |[],k=>k []
 |.tmp t::rs,k=>yS E f m rs fun vs=>k (bA E f (.tmp t)::vs)
 |.cell a t::rs,k=>oU E false t (bA E f (.tmp a)) m fun v _=>yS E f m rs fun vs=>k (v::vs)
def SC(E:Env)(rs:List ResultVar)(f:Fr)(m:Mem):Option PV:=yS E f m rs fun vs=>match vs with
  |[v]=>kn m ez v
  |vs=>(pe (kn m ez) vs).bind fun ps=>some (.bn ps)
section
variable {R:Type} (E:Env)
def GF(t:TypeId)(p:PV)(k:PV→Option R):Option R:=
 match E.P.underlying t with
 |some (.int _)=>ga E t p k
 |some .bool=>ga E t p k
 |some .string=>ga E t p k
 |some (.slice _)=>ga E t p k
 |some (.map _ _)=>ga E t p k
 |_=>k p
def pf:List TypeId→List PV→(List PV→Option R)→Option R
 |t::ts,p::ps,k=>GF E t p fun q=>pf ts ps fun qs=>k (q::qs)
 |_,ps,k=>k ps
def Pf(n:Nat)(p:PV)(a:Option R)(b:PV→Option R):Option R:=
 match p with
 |.o9=>a
 |.rp cs=>if n≤cs.length then b (.agg cs)else none
 |_=>none
def SD(t:TypeId)(p:PV)(k:PV→Option R):Option R:=
 match E.P.underlying t with
 |some (.struct _)=>(asAgg (aR E.P t) p).bind fun _=>match Cr E.P 8 t with
  |some ts=>pf E ts (aC (aR E.P t) p) fun cs=>k (.agg cs)
  |none=>none
 |some (.array _ _)=>(asAgg (aR E.P t) p).bind fun _=>match Cr E.P 8 t with
  |some ts=>pf E ts (aC (aR E.P t) p) fun cs=>k (.agg cs)
  |none=>none
 |some (.pointer e)=>Pf (aR E.P e) p (k .o9) fun q=>match Cr E.P 8 e with
  |some ts=>pf E ts (aC (aR E.P e) q) fun cs=>k (.rp cs)
  |none=>none
 |_=>GF E t p k
def xE:List TypeId→List PV→(List PV→Option R)→Option R
 |t::ts,p::ps,k=>SD E t p fun q=>xE ts ps fun qs=>k (q::qs)
 |_,ps,k=>k ps
end
def Cx(args:List V):Fr:=fun t=>args.getD t .top
noncomputable def B1(E:Env)(args:List V)(f:Fr)(m:Mem)(k:V→Fr→Mem→Option R):Option R:=
 match E.fn.body with
 |some c=>if args.length≤E.fn.ntmps then fj E c (uj E.fn.ntmps args f) m (fun e f m=>match e with
  |.exit _=>none
  |_=>yS E f m E.fn.results.toList fun vs=>match vs with
   |[v]=>k v (uI E.fn.ntmps f) m
   |vs=>k (.bn vs) (uI E.fn.ntmps f) m)else none
 |none=>none
def YZ(E:Env)(f:Fr)(m:Mem):Option PV:=
 match E.fn.resultTypes.toList with
 |[t]=>match E.P.underlying t with
  |some (.slice e)=>yS E f m E.fn.results.toList fun vs=>match vs with
   |[.os id]=>match m id with
    |some (.arr sz et es)=>if sz=aR E.P e∧et=e then some (.rs sz es)else none
    |_=>none
   |[.fx id 0 len]=>match m id with
    |some (.arr sz et es)=>if sz=aR E.P e∧et=e then some (.rs sz (es.take len))else none
    |_=>none
   |_=>none
  |_=>none
 |_=>none
noncomputable def GG(E:Env)(args:List PV):Option PV:=
 match E.fn.body with
 |some c=>if args.length≤E.fn.ntmps then xE E E.fn.params.toList args fun vs=>fj E c (Cx (vs.map .pv)) (fun _=>none) (fun e f m=>match e with
  |.exit _=>none
  |_=>YZ E f m)else none
 |none=>none
noncomputable def aq(E:Env)(args:List PV):Option PV:=
 match E.fn.body with
 |some c=>if args.length≤E.fn.ntmps then xE E E.fn.params.toList args fun vs=>fj E c (Cx (vs.map .pv)) (fun _=>none) (fun e f m=>match e with
  |.normal=>SC E E.fn.results.toList f m
  |.ret=>SC E E.fn.results.toList f m
  |.exit _=>none)else none
 |none=>none
end Go.Ab
