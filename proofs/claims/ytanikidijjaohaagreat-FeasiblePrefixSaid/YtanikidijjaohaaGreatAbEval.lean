import Derived.Test.YtanikidijjaohaaGreatAbDefs
import Derived.Deep.Quiet
set_option linter.unusedVariables false
namespace Go.Ab
inductive FS where
 |raw
 |fn (g:FuncId) (caps:List FS)
 |ptr (cells:List FS)
mutual
def WT:FS→PV→Option (List PV)
 |.raw,p=>some [p]
 |.fn g cs,.fn g' qs=>if g'=g then I6 cs qs else none
 |.ptr cs,.rp qs=>I6 cs qs
 |_,_=>none
def I6:List FS→List PV→Option (List PV)
 |[],[]=>some []
 |s::ss,p::ps=>(WT s p).bind fun a=>(I6 ss ps).bind fun b=>some (a++b)
 |_,_=>none
end
mutual
def Hf:FS→List PV→PV×List PV
 |.raw,[]=>(.bad,[])
 |.raw,p::r=>(p,r)
 |.fn g cs,l=>(.fn g (Br cs l).1,(Br cs l).2)
 |.ptr cs,l=>(.rp (Br cs l).1,(Br cs l).2)
def Br:List FS→List PV→List PV×List PV
 |[],l=>([],l)
 |s::ss,l=>((Hf s l).1::(Br ss (Hf s l).2).1,(Br ss (Hf s l).2).2)
end
mutual
def FS.n:FS→Nat
 |.raw=>1
 |.fn _ cs=>nFs cs
 |.ptr cs=>nFs cs
def nFs:List FS→Nat
 |[]=>0
 |s::ss=>s.n+nFs ss
end
inductive Sh where
 |raw
 |int (q:IntKind)
 |bool
 |str
 |rs (sz:Nat)
 |rp (n:Nat)
 |fs (s:FS)
 |row (id off:Nat)
 |own (v:V)
inductive Tv where
 |box (cs:List Sh)
 |arr (sz:Nat) (et:TypeId)
 |pR (sz:Nat) (et:TypeId)
 |map (kt:TypeId)
 |nest (sz:Nat) (et:TypeId)
 |fe (kt e:TypeId)
 |loop
 |busy
 |iter (t:TypeId)
structure gi where
 az:List (Nat×Sh)
 bX:List (Nat×Tv)
 fz:List (Nat×Nat):=[]
 bz:List (Nat×Nat×Nat):=[]
 bo:List (Nat×Nat×Nat×TypeId):=[]
 nz:List Nat:=[]
 ct:List (Nat×Nat):=[]
structure bd where
 run:{S R:Type}→(S→(S→Option R)→Option R)→S→Option R
 room:Nat→Bool
 tR:∀n,room n=true→(n:Int)≤IntKind.i64.max
def c7{S R:Type}(body:S→(S→Option R)→Option R):Nat→S→Option R
 |0,_=>none
 |n+1,s=>body s (c7 body n)
abbrev YL:=(R:Type)→Nat→Nat→Nat→List V→Fr→Mem→(V→Fr→Mem→Option R)→Option R
def Aq:YL:=fun _ _ _ _ _ _ _ _=>none
structure Env where
 P:Program
 ctx:FuncId→Option (List PV→Option PV)
 aD:Nat→Option (List PV)
 fid:FuncId
 fn:Func
 lp:bd
 hint:Nat→Nat→List gi
 u:Nat
 own:FuncId→Option (List PV→Option PV)
 inl:(R:Type)→FuncId→Nat→List V→Fr→Mem→(V→Fr→Mem→Option R)→Option R
 ZZ:(R:Type)→FuncId→Nat→YL→List V→Fr→Mem→(V→Fr→Mem→Option R)→Option R
 yl:YL
 Z0:Bool:=false
 fnr:FuncId→Option FS:=fun _=>none
 Ak:Nat→Bool:=fun _=>false
section
variable {R:Type} (E:Env)
def dP(kt:TypeId)(p:PV)(a:Option R)(b:List PV→List PV→Option R):Option R:=
 match p with
 |.ve=>a
 |.rm vh ks vs=>if vh=kt then b ks vs else none
 |_=>none
def gr(t:TypeId)(p:PV)(k:PV→Option R):Option R:=
 match E.P.underlying t with
 |some (.int q)=>(asInt q p).bind fun n=>k (.int q n)
 |some .bool=>(asBool p).bind fun b=>k (.bool b)
 |some .string=>(cR p).bind fun s=>k (.str s)
 |some (.slice e)=>(aa (aP E.P e) p).bind fun es=>k (.rs (aP E.P e) es)
 |some (.struct _)=>(asAgg (aP E.P t) p).bind fun _=>k (.agg (aC (aP E.P t) p))
 |some (.array _ _)=>(asAgg (aP E.P t) p).bind fun _=>k (.agg (aC (aP E.P t) p))
 |some (.pointer _)=>match p with
  |.pF=>k p
  |.rp _=>k p
  |_=>none
 |some (.map kt _)=>dP kt p (k .ve) fun ks vs=>k (.rm kt ks vs)
 |some (.func _ _ _)=>match p with
  |.Ao=>k .Ao
  |.fn g cs=>k (.fn g cs)
  |_=>none
 |some (.interface _)=>(PN p).bind fun b=>k (.WC b)
 |_=>none
def y9(t:TypeId)(v:V)(k:V→Option R):Option R:=
 match v with
 |.pv p=>gr E t p fun p=>k (.pv p)
 |.top=>none
 |v=>if(E.P.underlying t).isSome then k v else none
def Bt:List TypeId→List PV→(List V→Option R)→Option R
 |[],[],k=>k []
 |t::ts,p::ps,k=>gr E t p fun q=>Bt ts ps fun vs=>k (.pv q::vs)
 |_,_,_=>none
def Bu(ts:List TypeId)(r:PV)(k:V→Option R):Option R:=
 match ts with
 |[]=>(cP 0 r).bind fun _=>k (.bt [])
 |[t]=>gr E t r fun q=>k (.pv q)
 |ts=>(cP ts.length r).bind fun vs=>Bt E ts ((List.range ts.length).map fun j=>vs.getD j .bad) fun us=>k (.bt us)
def Ar(fid:FuncId)(ts:List TypeId)(r:PV)(k:V→Option R):Option R:=
 match E.fnr fid with
 |some s=>(WT s r).bind fun ls=>k (.pv (Hf s ((List.range s.n).map fun j=>ls.getD j .bad)).1)
 |none=>Bu E ts r k
def bw(f:Fr):Operand→V
 |.tmp t=>bif Nat.blt t E.fn.ntmps then f t else .top
 |.const c=>FJ c
 |.global g=>match E.aD g with|some cs=>.pv (.rp cs)|none=>.top
 |.func f=>bif Nat.blt f Cg then .fn f []else .top
def fresh(draw:Bool)(site:Nat)(b:bE)(f:Fr)(m:Mem)(k:Fr→Mem→bk→Option R):Option R:=
 match m site with
 |none=>k f (ak m site b) [(true,site)]
 |some _=>if draw||b.names site then none else k (eU site f) (ak (bx site m) site b) [(true,site)]
def qi:V→Option (List V)
 |.pv (.agg cs)=>some (cs.map .pv)
 |.agg cs=>some cs
 |_=>none
def cW:Mem:=fun _=>none
def lZ(op:BinOp)(t:TypeId)(a b:V)(k:PV→Option R):Option R:=
 match a,b with
 |.pv (.int q x),.pv (.int q' y)=>match op with
  |.shl=>if y<0 then none else k (.int q (q.wrap (x*2^(min y.toNat q.bits))))
  |.shr=>if y<0 then none else k (.int q (x.fdiv (2^(min y.toNat q.bits))))
  |op=>if q=q' then match op with
   |.add=>k (.int q (q.wrap (x+y)))
   |.sub=>k (.int q (q.wrap (x-y)))
   |.mul=>k (.int q (q.wrap (x*y)))
   |.quo=>if y=0 then none else k (.int q (q.wrap (x.tdiv y)))
   |.rem=>if y=0 then none else k (.int q (x.tmod y))
   |.and=>k (.int q (q.wrap (BitVec.ofInt q.bits x&&&BitVec.ofInt q.bits y).toNat))
   |.or=>k (.int q (q.wrap (BitVec.ofInt q.bits x|||BitVec.ofInt q.bits y).toNat))
   |.xor=>k (.int q (q.wrap (BitVec.ofInt q.bits x^^^BitVec.ofInt q.bits y).toNat))
   |.andNot=>k (.int q (q.wrap (BitVec.ofInt q.bits x&&& ~~~(BitVec.ofInt q.bits y)).toNat))
   |.eql=>k (.bool (x==y))
   |.neq=>k (.bool (x !=y))
   |.lss=>k (.bool (decide (x<y)))
   |.leq=>k (.bool (decide (x≤y)))
   |.gtr=>k (.bool (decide (x>y)))
   |.geq=>k (.bool (decide (x≥y)))
   |_=>none
   else none
 |.pv (.str x),.pv (.str y)=>match op with
  |.add=>if E.lp.room (x.length+y.length)=true then k (.str (x++y))else none
  |.eql=>k (.bool (x==y))
  |.neq=>k (.bool (!(x==y)))
  |.lss=>k (.bool (Op.bytesLess x y))
  |.leq=>k (.bool (Op.bytesLess x y||x==y))
  |.gtr=>k (.bool (!(Op.bytesLess x y||x==y)))
  |.geq=>k (.bool (!(Op.bytesLess x y)))
  |_=>none
 |.pv (.bool x),.pv (.bool y)=>match op,E.P.underlying t with
  |.eql,some .bool=>k (.bool (x==y))
  |.neq,some .bool=>k (.bool (!(x==y)))
  |_,_=>none
 |.pv .pF,.pv .pF=>match op,E.P.underlying t with
  |.eql,some (.pointer _)=>k (.bool true)
  |.neq,some (.pointer _)=>k (.bool false)
  |_,_=>none
 |.fn _ _,.pv .Ao|.pv (.fn _ _),.pv .Ao=>match op,E.P.underlying t with
  |.eql,some (.func _ _ _)=>k (.bool false)
  |.neq,some (.func _ _ _)=>k (.bool true)
  |_,_=>none
 |.pv (.rp _),.pv .pF|.op _ _,.pv .pF|.oe _ _ _,.pv .pF=>match op,E.P.underlying t with
  |.eql,some (.pointer _)=>k (.bool false)
  |.neq,some (.pointer _)=>k (.bool true)
  |_,_=>none
 |a,b=>if ao E.P t then match rR E.P t,qi a,qi b with
  |some ks,some as,some bs=>match pH (kD cW 1) as,pH (kD cW 1) bs with
   |some as,some bs=>if lD ks as=true∧lD ks bs=true then match op with
    |.eql=>k (.bool (dK as bs))
    |.neq=>k (.bool (!(dK as bs)))
    |_=>none
    else none
   |_,_=>none
  |_,_,_=>none
  else none
def CZ:Operand→Bool
 |.const .nilIface=>true
 |_=>false
def Tw(op:BinOp)(t:TypeId)(a:V)(k:PV→Option R):Option R:=
 match a with
 |.pv (.WC b)=>match op,E.P.underlying t with
  |.eql,some (.interface _)=>k (.bool (!b))
  |.neq,some (.interface _)=>k (.bool b)
  |_,_=>none
 |_=>none
def I7(op:BinOp)(t:TypeId)(y:Operand)(a b:V)(k:PV→Option R):Option R:=bif CZ y then Tw E op t a k else lZ E op t a b k
noncomputable def agree(a b:Option R):Option R:= @ite _ (a=b) (Classical.propDecidable _) a none
noncomputable def LW(op:BinOp)(t:TypeId)(es:List PV)(k:Bool→Option R):Option R:=
 match op,E.P.underlying t with
 |.eql,some (.slice _)=>if es.isEmpty=true then agree (k true) (k false)else k false
 |.neq,some (.slice _)=>if es.isEmpty=true then agree (k false) (k true)else k true
 |_,_=>none
def xun(op:UnOp)(a:V)(k:PV→Option R):Option R:=
 match op,a with
 |.not,.pv (.bool b)=>k (.bool !b)
 |.neg,.pv (.int q n)=>k (.int q (q.wrap (0-n)))
 |.xor,.pv (.int q n)=>k (.int q (q.wrap (BitVec.ofInt q.bits (if q.signed then-1 else q.max)^^^BitVec.ofInt q.bits n).toNat))
 |_,_=>none
def C0(s d:TypeId)(a:V)(k:PV→Option R):Option R:=
 match E.P.underlying s,E.P.underlying d,a with
 |some (.int q),some (.int q'),.pv (.int q'' n)=>if q''=q then(if q'=q then k (.int q n)else k (.int q' (q'.wrap n)))else none
 |some .string,some .string,.pv (.str s)=>k (.str s)
 |_,_,_=>none
def sf(s:Nat)(t:TypeId)(e:PV)(off:Nat)(k:V→Option R):Option R:=
 if ao E.P t then(if off+aP E.P t≤s then k (.pv (.agg (((aC s e).drop off).take (aP E.P t))))else none)
 else match(aC s e)[off]? with
  |some p=>gr E t p fun p=>k (.pv p)
  |none=>none
def pvO:V→Option PV
 |.pv p=>some p
 |_=>none
def xU(t:TypeId)(s i off:Nat):Bool:=match E.P.underlying t with
 |some (.array _ e)=>Nat.beq (aP E.P e) s&&ao E.P e&&Nat.beq i 0&&Nat.beq off 0
 |_=>false
def pz(own:Bool)(t:TypeId)(a:V)(m:Mem)(k:V→bk→Option R):Option R:=
 match a with
 |.pv (.rp cs)=>
  if ao E.P t then(if aP E.P t≤cs.length then k (.pv (.agg (cs.take (aP E.P t)))) []else none)
  else(cs.head?).bind fun p=>gr E t p fun p=>k (.pv p) []
 |.op id off=>match m id with
  |some (.box cs)=>
   if ao E.P t then(if off+aP E.P t≤cs.length then k (.agg ((cs.drop off).take (aP E.P t))) [(false,id)]else none)
   else match pH pvO cs with
    |some ps=>(ps[off]?).bind fun p=>gr E t p fun p=>k (.pv p) [(false,id)]
    |none=>match cs[off]? with
     |some v=>y9 E t v fun v=>k v [(false,id)]
     |none=>none
  |_=>none
 |.oe id i off=>match m id with
  |some (.arr s _ es)=>bif xU E t s i off then(if es.length*s=aP E.P t then k (.pv (.agg (eK s es))) [(false,id)]else none)else(es[i]?).bind fun e=>sf E s t e off fun v=>k v [(false,id)]
  |some (.pR s _ es)=>(es[i]?).bind fun e=>sf E s t e off fun v=>k v [(false,id)]
  |some (.nest _ _ es)=>if ao E.P t then none else(es[i]?).bind fun e=>
   if own then(match E.P.underlying t with
    |some (.slice et)=>(eT (aP E.P et) (cell e off)).bind fun _=>k (.vp id i off) [(false,id)]
    |_=>none)
   else gr E t (cell e off) fun p=>k (.pv p) [(false,id)]
  |_=>none
 |.y7 id i off s j off2=>match m id with
  |some (.nest _ _ es)=>(es[i]?).bind fun e=>(eT s (cell e off)).bind fun rs=>(rs[j]?).bind fun q=>sf E s t q off2 fun v=>k v [(false,id)]
  |_=>none
 |_=>none
def over{T:Type}:List T→List T→List T
 |[],cs=>cs
 |x::new,[]=>x::over new []
 |x::new,_::cs=>x::over new cs
def bH{T:Type}:List T→Nat→List T→List T
 |cs,0,new=>over new cs
 |[],_+1,new=>new
 |c::cs,off+1,new=>c::bH cs off new
theorem Hg{T:Type}:∀(new cs:List T),over new cs=new++cs.drop new.length
 |[],cs=>by simp[over]
 |x::new,[]=>by simp[over,Hg new []]
 |x::new,_::cs=>by simp[over,Hg new cs]
theorem dz{T:Type}:∀(cs:List T)(off:Nat)(new:List T),bH cs off new=cs.take off++new++cs.drop (off+new.length)
 |cs,0,new=>by cases cs<;>simp[bH,Hg]
 |[],_+1,new=>by simp[bH]
 |c::cs,off+1,new=>by rw[bH,dz cs off new,show off+1+new.length=(off+new.length)+1 by omega];simp
def vq(draw:Bool)(m:Mem)(n:Nat)(agg:Bool)(v:V):Option (PV×Mem):=if draw then(match kq cW n agg v with|some (p,_)=>some (p,m)|none=>none)else kq m n agg v
def setRow(s:Nat)(e:PV)(off:Nat)(p:PV):PV:=if s=1 then p else .agg ((aC s e).set off p)
def setCells(s:Nat)(e:PV)(off n:Nat)(p:PV):PV:=if off=0∧n=s then p else .agg (bH (aC s e) off p.cells)
def LX(t:TypeId)(i off:Nat)(b:Option bE)(x:V):Option (Nat×TypeId×Nat×PV):=match b,x with
 |some (.arr s et es),.pv p=>bif xU E t s i off then some (s,et,es.length,p)else none
 |_,_=>none
def sg(draw:Bool)(t:TypeId)(a x:V)(m:Mem)(k:Mem→bk→Option R):Option R:=
 match a with
 |.op id off=>match m id with
  |some (.box cs)=>match toCells (aP E.P t) x with
   |some new=>if off+aP E.P t≤cs.length∧0<aP E.P t then k (ak m id (.box (bH cs off new))) [(true,id)]else none
   |none=>none
  |_=>none
 |.oe id i off=>match LX E t i off (m id) x with
  |some (s,et,n,p)=>(asAgg (aP E.P t) p).bind fun _=>if n*s=aP E.P t∧0<aP E.P t then k (ak m id (.arr s et (fl s n p))) [(true,id)]else none
  |none=>match vq draw m (aP E.P t) (ao E.P t) x with
  |some (p,m)=>match m id with
   |some (.arr s et es)=>(es[i]?).bind fun e=>
    if off=0∧aP E.P t=s∧0<s then k (ak m id (.arr s et (es.set i p))) [(true,id)]
    else if off+aP E.P t≤s∧0<aP E.P t∧1<s then k (ak m id (.arr s et (es.set i (.agg (bH (aC s e) off p.cells))))) [(true,id)]
    else none
   |some (.nest s et es)=>(es[i]?).bind fun e=>if off+aP E.P t≤s∧0<aP E.P t∧1<s then k (ak m id (.nest s et (es.set i (.agg (bH (aC s e) off p.cells))))) [(true,id)]else none
   |_=>none
  |none=>none
 |.y7 id i off s j off2=>match kq cW (aP E.P t) (ao E.P t) x with
  |some (p,_)=>match m id with
   |some (.nest s0 et es)=>(es[i]?).bind fun e=>(eT s (cell e off)).bind fun rs=>(rs[j]?).bind fun q=>
    if off2+aP E.P t≤s∧0<aP E.P t∧off<s0 then k (ak m id (.nest s0 et (es.set i (setRow s0 e off (.pG s (rs.set j (setCells s q off2 (aP E.P t) p))))))) [(true,id)]
    else none
   |_=>none
  |none=>none
 |_=>none
def Ch(m:Mem)(x:V)(k:Nat→bk→Option R):Option R:=
 match x with
 |.pv (.rs _ es)=>k es.length []
 |.hZ=>k 0 []
 |.fH id _ len=>match m id with
  |some (.arr _ _ _)=>k len [(false,id)]
  |some (.pR _ _ _)=>k len [(false,id)]
  |_=>none
 |.os id=>match m id with
  |some (.arr _ _ es)=>k es.length [(false,id)]
  |some (.pR _ _ es)=>k es.length [(false,id)]
  |some (.nest _ _ es)=>k es.length [(false,id)]
  |some (.box cs)=>if cs.length≤maxLen then k cs.length [(false,id)]else none
  |_=>none
 |_=>none
def Rn(sz:Nat)(m:Mem)(x:V)(k:Nat→bk→Option R):Option R:=
 match x with
 |.vp id i off=>match m id with
  |some (.nest _ _ es)=>(es[i]?).bind fun e=>(eT sz (cell e off)).bind fun rs=>k rs.length [(false,id)]
  |_=>none
 |x=>Ch m x k
def Rp(m:Mem)(x:V)(k:Nat→bk→Option R):Option R:=
 match x with
 |.om id=>match m id with
  |some (.map _ es)=>if es.length≤maxLen then k es.length [(false,id)]else none
  |_=>none
 |.pv .ve=>k 0 []
 |_=>none
def I8(t:TypeId)(x:V)(m:Mem)(k:V→bk→Option R):Option R:=
 match E.P.underlying t with
 |some (.array n _)=>if n≤maxLen then k (.pv (.int .i64 n)) []else none
 |some .string=>match x with
  |.pv (.str s)=>k (.pv (.int .i64 s.length)) []
  |_=>none
 |some (.slice e)=>Rn (aP E.P e) m x fun n ft=>k (.pv (.int .i64 n)) ft
 |some (.map _ _)=>Rp m x fun n ft=>k (.pv (.int .i64 n)) ft
 |_=>none
def eM(m:Mem)(sz:Nat):V→Option (List PV×bk)
 |.pv (.rs s es)=>if s=sz then some (es,[])else match es with|[]=>some ([],[])|_=>none
 |.hZ=>some ([],[])
 |.os id=>match m id with
  |some (.arr s' _ es)=>if s'=sz then some (es,[(false,id)])else none
  |some (.pR s' _ es)=>if s'=sz then some (es,[(false,id)])else none
  |_=>none
 |.fH id lo len=>match m id with
  |some (.arr s' _ es)=>if s'=sz then some ((es.drop lo).take len,[(false,id)])else none
  |some (.pR s' _ es)=>if s'=sz then some ((es.drop lo).take len,[(false,id)])else none
  |_=>none
 |.vp id i off=>match m id with
  |some (.nest _ _ es)=>(es[i]?).bind fun e=>(eT sz (cell e off)).bind fun rs=>some (rs,[(false,id)])
  |_=>none
 |_=>none
def Hh(m:Mem)(sz:Nat)(x:V)(k:List PV→bk→Option R):Option R:=
 match x with
 |.vp id i off=>match m id with
  |some (.nest _ _ es)=>(es[i]?).bind fun e=>(eT sz (cell e off)).bind fun rs=>k rs [(false,id)]
  |_=>none
 |x=>match eM m sz x with
  |some (es,ft)=>k es ft
  |none=>none
def As:List PV→Option Bytes
 |[]=>some []
 |.int .u8 n::r=>(As r).map fun b=>UInt8.ofNat n.toNat::b
 |_=>none
def Au(s d:TypeId)(a:V)(m:Mem)(k:PV→bk→Option R):Option R:=
 match E.P.underlying s,E.P.underlying d with
 |some (.slice e),some .string=>match E.P.underlying e,eM m 1 a with
  |some (.int .u8),some (es,ft)=>(As es).bind fun b=>k (.str b) ft
  |_,_=>none
 |_,_=>C0 E s d a fun p=>k p []
def ah(i:Int)(n:Nat):Prop:=0≤i∧i<(n:Int)
instance (i:Int) (n:Nat):Decidable (ah i n):=inferInstanceAs (Decidable (_∧_))
def c8(t:TypeId)(x ix:V)(m:Mem)(k:V→bk→Option R):Option R:=
 match ix with
 |.pv (.int _ i)=>match E.P.underlying t,x with
  |some (.slice e),.pv (.rs s es)=>if s=aP E.P e∧0<s then(aO es i).bind fun p=>k (.pv (.rp (aC s p))) []else none
  |some (.slice e),.os id=>match m id with
   |some (.arr s _ es)=>if s=aP E.P e∧0<s then(if ah i es.length then k (.oe id i.toNat 0) [(false,id)]else none)else none
   |some (.pR s _ es)=>if s=aP E.P e∧0<s then(if ah i es.length then k (.oe id i.toNat 0) [(false,id)]else none)else none
   |some (.nest s _ es)=>if s=aP E.P e∧0<s then(if ah i es.length then k (.oe id i.toNat 0) [(false,id)]else none)else none
   |some (.box cs)=>if aP E.P e=1∧ah i cs.length then k (.op id i.toNat) [(false,id)]else none
   |_=>none
  |some (.slice e),.vp id i0 off=>match m id with
   |some (.nest _ _ es)=>if 0<aP E.P e then(es[i0]?).bind fun e0=>(eT (aP E.P e) (cell e0 off)).bind fun rs=>if ah i rs.length then k (.y7 id i0 off (aP E.P e) i.toNat 0) [(false,id)]else none else none
   |_=>none
  |some (.slice e),.fH id lo len=>match m id with
   |some (.arr s _ _)=>if s=aP E.P e∧0<s then(if ah i len then k (.oe id (lo+i.toNat) 0) [(false,id)]else none)else none
   |some (.pR s _ _)=>if s=aP E.P e∧0<s then(if ah i len then k (.oe id (lo+i.toNat) 0) [(false,id)]else none)else none
   |_=>none
  |some (.array n e),.op id off=>if ah i n∧0<aP E.P e then k (.op id (off+i.toNat*aP E.P e)) []else none
  |some (.array n e),.pv (.rp cs)=>if ah i n∧0<aP E.P e then k (.pv (.rp (cs.drop (i.toNat*aP E.P e)))) []else none
  |some (.array n e),.oe id j off=>if ah i n∧0<aP E.P e then(match(match m id with|some (.arr s _ _)=>Nat.beq (aP E.P e) s|_=>false)with
   |true=>k (.oe id (i.toNat+j) off) [(false,id)]
   |false=>k (.oe id j (off+i.toNat*aP E.P e)) [(false,id)])else none
  |_,_=>none
 |_=>none
def za(s:TypeId)(j:Nat):Option (Nat×TypeId):=
 match E.P.underlying s with
 |some (.struct fs)=>match fs[j]? with
  |some f=>if aP E.P f.type=0 then none else some (f.offset,f.type)
  |none=>none
 |_=>none
def jR(s:TypeId)(x:V)(j:Nat)(k:V→Option R):Option R:=
 match za E s j with
 |some (o,_)=>match x with
  |.pv (.rp cs)=>k (.pv (.rp (cs.drop o)))
  |.op id off=>k (.op id (off+o))
  |.oe id i off=>k (.oe id i (off+o))
  |.y7 id i off s j off2=>k (.y7 id i off s j (off2+o))
  |_=>none
 |none=>none
def C1(t:TypeId)(cs:List V)(off:Nat)(k:V→Option R):Option R:=
 if ao E.P t then(if off+aP E.P t≤cs.length then k (.agg ((cs.drop off).take (aP E.P t)))else none)
 else match cs[off]? with
  |some v=>y9 E t v k
  |none=>none
def C2(s:TypeId)(x:V)(j:Nat)(k:V→Option R):Option R:=
 match za E s j,qi x with
 |some (o,t),some cs=>C1 E t cs o k
 |_,_=>none
def Av(t:TypeId)(x ix:V)(k:V→Option R):Option R:=
 match ix with
 |.pv (.int _ i)=>match E.P.underlying t,x with
  |some .string,.pv (.str s)=>(Rm s i).bind fun b=>k (.pv (.int .u8 b.toNat))
  |some (.array n et),x=>match qi x with
   |some cs=>if ah i n∧0<aP E.P et then C1 E et cs (i.toNat*aP E.P et) k else none
   |none=>none
  |_,_=>none
 |_=>none
def jB(d:Int):Option V→Option Int
 |none=>some d
 |some (.pv (.int _ i))=>some i
 |_=>none
def tS(t:TypeId)(x:V)(lo hi mx:Option V)(m:Mem)(k:V→bk→Option R):Option R:=
 match mx with
 |some mx=>match E.P.underlying t,x with
  |some (.slice e),.os id=>match m id with
   |some (.arr s _ es)=>match lo,hi,mx with
    |none,some (.pv (.int _ h)),.pv (.int _ c)=>if 0≤h∧h≤c∧c≤(es.length:Int)∧s=aP E.P e then k (.fH id 0 h.toNat) [(false,id)]else none
    |_,_,_=>none
   |_=>none
  |_,_=>none
 |none=>match E.P.underlying t,x with
  |some .string,.pv (.str s)=>match jB 0 lo,jB s.length hi with
   |some l,some h=>if 0≤l∧l≤h∧h≤(s.length:Int)then k (.pv (.str ((s.take h.toNat).drop l.toNat))) []else none
   |_,_=>none
  |some (.slice e),.pv (.rs sz es)=>match jB 0 lo,jB es.length hi with
   |some l,some h=>if 0≤l∧l≤h∧h≤(es.length:Int)∧sz=aP E.P e∧aP E.P e≠0 then k (.pv (.rs sz ((es.take h.toNat).drop l.toNat))) []else none
   |_,_=>none
  |some (.slice e),.os id=>match m id with
   |some (.arr s _ es)=>match jB 0 lo,jB es.length hi with
    |some l,some h=>if 0≤l∧l≤h∧h≤(es.length:Int)∧s=aP E.P e then k (.fH id l.toNat (h.toNat-l.toNat)) [(false,id)]else none
    |_,_=>none
   |some (.pR s _ es)=>match jB 0 lo,jB es.length hi with
    |some l,some h=>if 0≤l∧l≤h∧h≤(es.length:Int)∧s=aP E.P e then k (.fH id l.toNat (h.toNat-l.toNat)) [(false,id)]else none
    |_,_=>none
   |_=>none
  |_,_=>none
def placesOf(fs:List Field)(j:Nat):Option (Nat×Nat):=(fs[j]?).map fun f=>(f.offset,aP E.P f.type)
def FK(place:Nat→Option (Nat×Nat))(cs:List V):List (Nat×V)→Option (List V)
 |[]=>some cs
 |(i,v)::rest=>match place i with
  |some (off,size)=>match toCells size v with
   |some new=>if off+size≤cs.length then FK place (bH cs off new) rest else none
   |none=>none
  |none=>none
def c9(t:TypeId):Option (List V):=match zeroV E.P t with|some v=>toCells (aP E.P t) v|none=>none
def Aw(t:TypeId)(parts:List (Nat×V))(k:V→Option R):Option R:=
 match c9 E t,E.P.underlying t with
 |some z,some (.struct fs)=>if fs.toList.all (fun f=>(E.P.info? f.type).isSome)then match FK (placesOf E fs.toList) z parts with
  |some cs=>k (.agg cs)
  |none=>none
  else none
 |some z,some (.array _ e)=>if 0<aP E.P e then match FK (fun i=>some (i*aP E.P e,aP E.P e)) z parts with
  |some cs=>k (.agg cs)
  |none=>none
  else none
 |_,_=>none
def ep(m:Mem)(n:Nat)(agg:Bool):Nat→List (Nat×V)→Option (List PV×Mem)
 |_,[]=>some ([],m)
 |i,(j,v)::r=>if i=j then match kq m n agg v with
  |some (p,m)=>match ep m n agg (i+1) r with
   |some (ps,m)=>some (p::ps,m)
   |none=>none
  |none=>none
  else none
def C3:Nat→List (Nat×V)→Option (List V)
 |_,[]=>some []
 |i,(j,v)::r=>if i=j then match toCells 1 v with
  |some cs=>match C3 (i+1) r with
   |some us=>some (cs++us)
   |none=>none
  |none=>none
  else none
def PO(t:TypeId):Bool:=match E.P.underlying t with|some (.func _ _ _)=>true|_=>false
def Ax(t:TypeId):Option PV:=match zeroV E.P t with
 |some v=>match kD cW 2 v with
  |some p=>if ao E.P t=p.isAgg∧p.cells.length=aP E.P t∧p.plain=true then some p else none
  |none=>none
 |none=>none
def keyOf(kt:TypeId)(v:V):Option PV:=
 match rR E.P kt with
 |some ks=>
  if ao E.P kt then(match qi v with
   |some cs=>match pH (kD cW 1) cs with
    |some ps=>if lD ks ps then some (.agg ps)else none
    |none=>none
   |none=>none)
  else match v with
   |.pv p=>if lD ks [p]then some p else none
   |_=>none
 |none=>none
def I9(site:Nat)(t:TypeId)(x ix:V)(m:Mem)(k:V→Mem→bk→Option R):Option R:=
 match E.P.underlying t with
 |some (.map kt et)=>match E.P.underlying et with
  |some (.slice e)=>match x,zeroV E.P et with
   |.om id,some .hZ=>match m id,m site with
    |some (.fe vh e' es),none=>if vh=kt∧e'=e∧0<aP E.P e then(keyOf E kt ix).bind fun key=>(I5 (aP E.P e) key es).bind fun rs=>k (.os site) (ak (ak m id (.fe kt e (rQ key es))) site (.arr (aP E.P e) e rs)) [(true,id),(true,site)]else none
    |_,_=>none
   |_,_=>none
  |_=>none
 |_=>none
def tT(t:TypeId)(x ix:V)(ok:Bool)(m:Mem)(k:V→bk→Option R):Option R:=
 match E.P.underlying t with
 |some (.map kt et)=>match Ax E et with
  |some z=>match x with
   |.om id=>match m id with
    |some (.map vh es)=>if vh=kt then(keyOf E kt ix).bind fun key=>gr E et (dH key z es) fun v=>k (if ok then .bt [.pv v,.pv (.bool (vf key es))]else .pv v) [(false,id)]else none
    |_=>none
   |.pv p=>dP kt p ((keyOf E kt ix).bind fun _=>k (if ok then .bt [.pv z,.pv (.bool false)]else .pv z) []) fun ks vs=>(keyOf E kt ix).bind fun key=>gr E et (dH key z (ks.zip vs)) fun v=>k (if ok then .bt [.pv v,.pv (.bool (vf key (ks.zip vs)))]else .pv v) []
   |_=>none
  |none=>none
 |_=>none
def zb(draw:Bool)(m:Mem)(v:V):Option (PV×Mem):=if draw then(match tQ cW v with|some (p,_)=>some (p,m)|none=>none)else tQ m v
def nr(draw:Bool)(t:TypeId)(x key val:V)(m:Mem)(k:Mem→bk→Option R):Option R:=
 match E.P.underlying t with
 |some (.map kt _)=>match x with
  |.om id=>match zb draw m val with
   |some (v,m)=>match m id with
    |some (.map vh es)=>if vh=kt then(keyOf E kt key).bind fun key=>k (ak m id (.map kt (eS key v es))) [(true,id)]else none
    |_=>none
   |none=>none
  |_=>none
 |_=>none
def an:Nat:=140737488355328
def kR(m:Mem):Nat→List V→Option (List PV×Option (Nat×Nat))
 |_,[]=>some ([],none)
 |j,.os id::r=>match m id with
  |some (.arr s _ es)=>match kR m (j+1) r with
   |some (ps,none)=>some (.pG s es::ps,some (j,id))
   |_=>none
  |_=>none
 |j,v::r=>match kD cW 1 v with
  |some p=>match kR m (j+1) r with
   |some (ps,t)=>some (p::ps,t)
   |none=>none
  |none=>none
def elemOf(agg:Bool)(ps:List PV):Option PV:=if agg then some (.agg ps)else match ps with|[p]=>some p|_=>none
inductive Sp where
 |st (id i off s:Nat) (et:TypeId) (es ps:List PV) (id2:Nat)
 |app (id s:Nat) (et:TypeId) (es new:List PV) (src:Option Nat) (rd:bk)
 |lit (s:Nat) (et:TypeId) (p:PV) (id2:Nat)
 |upd (id:Nat) (kt e:TypeId) (es:List (PV×PV)) (key:PV) (s:Nat) (rs:List PV) (id2:Nat)
def xV(site:Nat)(o:Oper)(f:Fr)(m:Mem):Option Sp:=
 match o.op with
 |.store t a x=>match bw E f a with
  |.oe id i off=>match m id with
   |some (.nest s et es)=>match toCells (aP E.P t) (bw E f x)with
    |some cs=>match kR m 0 cs with
     |some (ps,some (_,id2))=>if off+aP E.P t≤s&&0<aP E.P t&& !(Nat.beq id2 id)then some (.st id i off s et es ps id2)else none
     |_=>none
    |none=>none
   |_=>none
  |_=>none
 |.buildSlice t len parts=>match E.P.underlying t,parts.toList.map fun(i,x)=>(i,bw E f x)with
  |some (.slice e),[(0,v)]=>match toCells (aP E.P e) v with
   |some cs=>match kR m 0 cs,m site with
    |some (ps,some (_,id2)),none=>match elemOf (ao E.P e) ps with
     |some p=>if Nat.beq len 1&&0<aP E.P e&&aP E.P e≤16777216&&(c9 E e).isSome then some (.lit (aP E.P e) e p id2)else none
     |none=>none
    |_,_=>none
   |none=>none
  |_,_=>none
 |.call c=>match c.callee,c.args.toList.map (bw E f),c.argTypes.toList with
  |.builtin .append,[.os id,x],[t,t']=>match E.P.underlying t,m id with
   |some (.slice e),some (.nest s et es)=>if et=e&&s=aP E.P e&&decide (t'=t)&&(c9 E e).isSome&&0<aP E.P e&&0<Fi E.P e then(match x with
    |.os pI=>match m pI with
     |some (.nest s' C4 new)=>if Nat.beq s' s&&decide (C4=et)&& !(Nat.beq pI id)then some (.app id s et es new (some pI) [])else none
     |_=>match eM m s x with
      |some (new,rd)=>if x.has id then none else some (.app id s et es new none rd)
      |none=>none
    |_=>match eM m s x with
     |some (new,rd)=>if x.has id then none else some (.app id s et es new none rd)
     |none=>none)else none
   |_,_=>none
  |_,_,_=>none
 |.mapUpdate t x key v=>match E.P.underlying t,bw E f x,bw E f v with
  |some (.map kt _),.om id,.os id2=>match m id,m id2,keyOf E kt (bw E f key)with
   |some (.fe vh e es),some (.arr s e' rs),some key=>if decide (vh=kt)&&decide (e'=e)&&Nat.beq s (aP E.P e)then some (.upd id kt e es key s rs id2)else none
   |_,_,_=>none
  |_,_,_=>none
 |_=>none
def Sp.info(site:Nat):Sp→Kl×bk
 |.st id _ _ _ _ _ _ id2=>([(true,id2),(false,id)],[(true,id),(true,id2)])
 |.app id _ _ _ _ (some id2) _=>([(true,id2),(true,id)],[(true,id),(true,id2)])
 |.app id _ _ _ _ none rd=>([(true,id)],(true,id)::rd)
 |.lit _ _ _ id2=>([(true,id2)],[(true,site),(true,id2)])
 |.upd id _ _ _ _ _ _ id2=>([(true,id2),(false,id)],[(true,id),(true,id2)])
def YS(site:Nat)(sp:Sp)(f:Fr)(m:Mem)(k:V→Fr→Mem→bk→Option R):Option R:=
 match sp with
 |.st id i off s et es ps id2=>(es[i]?).bind fun e=>k .top (kf [(true,id2),(false,id)] f) (sN [(id,.nest s et (es.set i (if s=1 then ps.headD .bad else .agg (bH (aC s e) off ps))))] (km [(true,id2),(false,id)] m)) [(true,id),(true,id2)]
 |.app id s et es new src rd=>if(es++new).length*Fi E.P et≤an then k (.os id) (kf (Sp.app id s et es new src rd|>.info site).1 f) (sN [(id,.nest s et (es++new))] (km (Sp.app id s et es new src rd|>.info site).1 m)) (Sp.app id s et es new src rd|>.info site).2 else none
 |.lit s et p id2=>k (.os site) (kf [(true,id2)] f) (sN [(site,.nest s et [p])] (km [(true,id2)] m)) [(true,site),(true,id2)]
 |.upd id kt e es key s rs id2=>k .top (kf [(true,id2),(false,id)] f) (sN [(id,.fe kt e (eS key (.pG s rs) es))] (km [(true,id2),(false,id)] m)) [(true,id),(true,id2)]
def zd(draw:Bool)(site:Nat)(t t':TypeId)(s x:V)(f:Fr)(m:Mem)(k:V→Fr→Mem→Option R):Option R:=
 if draw|| !(decide (t'=t))then none else
 match E.P.underlying t with
 |some (.slice e)=>if(c9 E e).isNone then none else match eM m (aP E.P e) x with
  |some (new,_)=>match s with
   |.hZ=>if new.length*Fi E.P e≤an∧0<Fi E.P e∧0<aP E.P e then fresh draw site (.arr (aP E.P e) e new) f m (fun f m _=>k (.os site) f m)else none
   |.os id=>match m id with
    |some (.arr sz et es)=>if et=e∧sz=aP E.P e∧x.has id=false then(if(es++new).length*Fi E.P e≤an∧0<Fi E.P e then fresh draw id (.arr sz e (es++new)) (eU id f) (bh (bx id m) id) (fun f m _=>k (.os id) f m)else none)else none
    |_=>none
   |_=>none
  |none=>none
 |_=>none
def Ja(t:TypeId)(d x:V)(m:Mem)(k:V→Mem→bk→Option R):Option R:=
 match E.P.underlying t with
 |some (.slice e)=>match d with
  |.os id=>match m id with
   |some (.arr sz et es)=>if sz=aP E.P e∧x.has id=false then Hh m sz x fun new ft=>k (.pv (.int .i64 (min new.length es.length:Nat))) (ak m id (.arr sz et (new.take es.length++es.drop new.length))) ((true,id)::ft)else none
   |_=>none
  |_=>none
 |_=>none
def C5(t:TypeId)(x:V)(m:Mem)(k:V→Mem→bk→Option R):Option R:=
 match E.P.underlying t with
 |some (.slice e)=>match x,Ax E e with
  |.fH id lo len,some z=>match m id with
   |some (.arr sz et es)=>if sz=aP E.P e∧et=e∧lo+len≤es.length∧0<aP E.P e then k .top (ak m id (.arr sz et (es.take lo++(List.replicate len z++es.drop (lo+len))))) [(true,id)]else none
   |_=>none
  |_,_=>none
 |_=>none
def qj(draw:Bool)(site:Nat)(t:TypeId)(len cap:V)(f:Fr)(m:Mem)(k:V→Fr→Mem→bk→Option R):Option R:=
 match E.P.underlying t,len,cap with
 |some (.slice e),.pv (.int _ n),.pv (.int _ c)=>match Ax E e with
  |some z=>if 0≤n∧n≤c∧c.toNat*Fi E.P e≤an∧0<Fi E.P e∧0<aP E.P e then fresh draw site (.arr (aP E.P e) e (List.replicate n.toNat z)) f m (fun f m ft=>k (.os site) f m ft)else none
  |none=>none
 |_,_,_=>none
def Jb(a b:V)(k:PV→Option R):Option R:=match a,b with
 |.pv (.int q x),.pv (.int q' y)=>if q=q' then k (.int q (if y<x then y else x))else none
 |_,_=>none
def Bv(a b:V)(k:PV→Option R):Option R:=match a,b with
 |.pv (.int q x),.pv (.int q' y)=>if q=q' then k (.int q (if y>x then y else x))else none
 |_,_=>none
def Jc(a b c d:V)(k:PV→Option R):Option R:=Bv a b fun p=>Bv (.pv p) c fun p=>Bv (.pv p) d k
def tU(t:TypeId):Bool:=match E.P.underlying t with|some (.int _)|some .bool|some .string=>true|_=>false
def iI(m:Mem):List V→Option (List PV×Mem)
 |[]=>some ([],m)
 |v::r=>match tQ m v with
  |some (p,m)=>match iI m r with
   |some (ps,m)=>some (p::ps,m)
   |none=>none
  |none=>none
def FL:PV→PV
 |.int q n=>.int q n
 |.bool b=>.bool b
 |.str s=>.str s
 |_=>.bad
def uT(draw:Bool)(site:Nat)(fid:FuncId)(args:List V)(f:Fr)(m:Mem)(k:V→Fr→Mem→bk→Option R):Option R:=
 match E.ctx fid with
 |some M=>match E.P.funcs[fid]? with
  |some fn=>
   if fn.resultTypes.toList.all (tU E)then(match pH (kD m eL) args with
     |some ps=>(M ps).bind fun r=>Bu E fn.resultTypes.toList r fun v=>k v f m ((iH (cS m eL) args).map fun i=>(false,i))
     |none=>none)
   else(match iI (if draw then cW else m) args with
     |some (ps,m')=>(M ps).bind fun r=>Ar E fid fn.resultTypes.toList r fun v=>k v f (if draw then m else m') (if draw then[]else[(true,0)])
     |none=>none)
  |none=>none
 |none=>match E.own fid with
  |some M=>match E.P.funcs[fid]? with
   |some fn=>match fn.resultTypes.toList with
    |[t]=>match E.P.underlying t with
     |some (.slice e)=>if tU E e=true∧aP E.P e=1 then(match pH (kD m eL) args with
      |some ps=>(M ps).bind fun r=>(aa (aP E.P e) r).bind fun es=>fresh draw site (.arr (aP E.P e) e (es.map FL)) f m fun f m1 ft=>k (.os site) f m1 (ft++(iH (cS m eL) args).map fun i=>(false,i))
      |none=>none)
      else match iI (if draw then cW else m) args with
      |some (ps,m')=>(M ps).bind fun r=>(aa (aP E.P e) r).bind fun es=>fresh draw site (.arr (aP E.P e) e es) f (if draw then m else m') fun f m ft=>k (.os site) f m ft
      |none=>none
     |_=>none
    |_=>none
   |none=>none
  |none=>if draw then none else E.inl R fid (site*4096+fid) args f m fun v f m=>k v f m [(true,0)]
def Tx(f:TypeId→Option (List TypeId)):List Field→Option (List TypeId)
 |[]=>some []
 |x::r=>(f x.type).bind fun a=>(Tx f r).bind fun b=>some (a++b)
def Ty(l:List TypeId):Nat→List TypeId
 |0=>[]
 |n+1=>l++Ty l n
def C6(P:Program):Nat→TypeId→Option (List TypeId)
 |0,_=>none
 |d+1,t=>match P.underlying t with
  |some (.struct fs)=>Tx (C6 P d) fs.toList
  |some (.array n e)=>(C6 P d e).bind fun l=>some (Ty l n)
  |some _=>some [t]
  |none=>none
def uU(n:Nat)(args:List V)(f:Fr):Fr:=fun t=>bif Nat.blt t n then args.getD t .top else f (t-n)
def vt(n:Nat)(f:Fr):Fr:=fun t=>f (t+n)
def Tz:V→Bool
 |.hZ=>true
 |_=>false
def sS(site j:Nat):Nat:=site+(j+1)*1606938044258990275541962092341162602522202993782792835301376
def wI(E:Env){R:Type}(site:Nat):List TypeId→Nat→Fr→Mem→(Fr→Mem→Option R)→Option R
 |[],_,F,m,k=>k F m
 |t::ts,j,F,m,k=>match F j with
  |.hZ=>match E.P.underlying t with
   |some (.slice e)=>if 0<aP E.P e then fresh false (sS site j) (.arr (aP E.P e) e []) F m fun F m _=>wI E site ts (j+1) (fI F j (.os (sS site j))) m k else none
   |_=>none
  |_=>wI E site ts (j+1) F m k
def abw(E:Env)(t:TypeId):Bool:=match E.P.underlying t with|some (.slice _)=>true|_=>false
def Hi(f:Fr):Option Operand→Bool
 |none=>true
 |some x=>match bw E f x with|.pv (.int _ _)=>true|_=>false
noncomputable def rT(n:Nat)(g:Nat→Option R):Option R:= @dite _ (∃r,∀i,i<n→g i=some r) (Classical.propDecidable _) (fun h=>some (Classical.choose h)) fun _=>none
def LY(site:Nat)(t:TypeId)(x:V)(f:Fr)(m:Mem)(k:V→Fr→Mem→Option R):Option R:=
 match E.P.underlying t with
 |some (.map kt _)=>match x with
  |.om id=>match m id with
   |some (.map vh es)=>if vh=kt then fresh false site (.iter t es none) (eU id f) (bh (bx id m) id) fun f m _=>k (.it site) f m else none
   |_=>none
  |_=>none
 |_=>none
noncomputable def TA(x:V)(f:Fr)(m:Mem)(k:V→Fr→Mem→Option R):Option R:=
 match x with
 |.it id=>match m id with
  |some (.iter t es _)=>match E.P.underlying t with
   |some (.map kt et)=>if es.isEmpty=true then k (.bt [.pv (.bool false)]) f m else rT es.length fun i=>(es[i]?).bind fun e=>gr E kt e.1 fun a=>gr E et e.2 fun b=>k (.bt [.pv (.bool true),.pv a,.pv b]) f (ak m id (.iter t (es.eraseIdx i) (some (a,b))))
   |_=>none
  |_=>none
 |_=>none
def LZ(x:V)(m:Mem)(k:V→Mem→Option R):Option R:=
 match x with
 |.it id=>match m id with
  |some (.iter t es (some (a,b)))=>k (.bt [.pv a,.pv b]) (ak m id (.iter t es none))
  |_=>none
 |_=>none
def L2:Op→Bool
 |.range .. =>true
 |.next .. =>true
 |.entry .. =>true
 |_=>false
def uV(g:FuncId):FuncId:=bif Nat.blt g Cg then g else g-Cg
def xW(g:FuncId)(caps args:List V):List V:=bif Nat.blt g Cg then args++caps else caps++args
noncomputable def cJ(draw:Bool)(site:Nat)(o:Oper)(f:Fr)(m:Mem)(k:V→Fr→Mem→bk→Option R):Option R:=
 match o.op with
 |.move x=>k (bw E f x) f m []
 |.assign x=>match bw E f x with
  |.hZ=>match E.P.underlying o.type with
   |some (.slice e)=>if 0<aP E.P e then fresh draw site (.arr (aP E.P e) e []) f m fun f m ft=>k (.os site) f m ft else none
   |_=>k .hZ f m []
  |v=>k v f m []
 |.pick c a b=>match bw E f c with
  |.pv (.bool t)=>if t then k (bw E f a) f m []else k (bw E f b) f m []
  |_=>none
 |.alloc t=>match c9 E t with
  |some cs=>bif E.Ak site then(match E.P.underlying t,pH pvO cs with
   |some (.array n e),some ps=>if ao E.P e=true∧n*aP E.P e=aP E.P t∧0<aP E.P e∧n≤16777216 then fresh draw site (.arr (aP E.P e) e (fl (aP E.P e) n (.agg ps))) f m fun f m ft=>k (.oe site 0 0) f m ft else none
   |_,_=>none)
   else if !draw&&abw E t then wI E site [t] 0 (uU cs.length cs f) m fun F m=>fresh false site (.box ((List.range cs.length).map F)) (vt cs.length F) m fun f m ft=>k (.op site 0) f m ft
   else fresh draw site (.box cs) f m fun f m ft=>k (.op site 0) f m ft
  |none=>none
 |.box t x=>match toCells (aP E.P t) (bw E f x)with
  |some cs=>if !draw&&cs.any Tz then(match C6 E.P 8 t with
   |some ts=>if ts.length=cs.length then wI E site ts 0 (uU cs.length cs f) m fun F m=>fresh false site (.box ((List.range cs.length).map F)) (vt cs.length F) m fun f m ft=>k (.op site 0) f m ft else none
   |none=>none)else fresh draw site (.box cs) f m fun f m ft=>k (.op site 0) f m ft
  |none=>none
 |.build t parts=>Aw E t (parts.toList.map fun(i,x)=>(i,bw E f x)) fun v=>k v f m []
 |.buildSlice t len parts=>match E.P.underlying t with
  |some (.slice e)=>if PO E e then(match C3 0 (parts.toList.map fun(i,x)=>(i,bw E f x))with
   |some cs=>if parts.size=len∧aP E.P e=1∧len≤16777216∧(c9 E e).isSome=true then fresh draw site (.box cs) f m fun f m ft=>k (.os site) f m ft else none
   |none=>none)
   else if E.Ak (site+1000000000000000000000000000000)then(match ep cW (aP E.P e) (ao E.P e) 0 (parts.toList.map fun(i,x)=>(i,bw E f x))with
   |some (es,_)=>if es.length=len∧0<aP E.P e∧len*aP E.P e≤16777216∧(c9 E e).isSome=true then k (.pv (.rs (aP E.P e) es)) f m []else none
   |none=>none)
   else match ep (if draw then cW else m) (aP E.P e) (ao E.P e) 0 (parts.toList.map fun(i,x)=>(i,bw E f x))with
   |some (es,m1)=>if es.length=len∧0<aP E.P e∧len*aP E.P e≤16777216∧(c9 E e).isSome=true then fresh draw site (.arr (aP E.P e) e es) f (if draw then m else m1) fun f m ft=>k (.os site) f m ft else none
   |none=>none
  |_=>none
 |.load t a=>pz E (E.Ak site) t (bw E f a) m fun v ft=>k v f m ft
 |.store t a x=>sg E draw t (bw E f a) (bw E f x) m fun m ft=>k .top f m ft
 |.nilCheck x=>match bw E f x with
  |.pv (.rp cs)=>k (.pv (.rp cs)) f m []
  |.op id off=>k (.op id off) f m []
  |.oe id i off=>k (.oe id i off) f m []
  |.y7 id i off s j off2=>k (.y7 id i off s j off2) f m []
  |.fn g cs=>k (.fn g cs) f m []
  |.pv (.fn g cs)=>k (.pv (.fn g cs)) f m []
  |_=>none
 |.binOp op t x y _=>match bw E f x,bw E f y with
  |.pv (.rs _ es),.hZ=>if draw then none else LW E op t es fun b=>k (.pv (.bool b)) f m [(true,0)]
  |a,b=>I7 E op t y a b fun p=>k (.pv p) f m []
 |.unOp op _ x=>xun op (bw E f x) fun p=>k (.pv p) f m []
 |.convert s d x=>Au E s d (bw E f x) m fun p ft=>k (.pv p) f m ft
 |.makeFunc (.func g) first caps=>bif Nat.blt g Cg then(if first.isEmpty then k (.fn g (caps.toList.map (bw E f))) f m []else if caps.isEmpty then k (.fn (g+Cg) (first.toList.map (bw E f))) f m []else none)else none
 |.makeMap t hint=>if Hi E f hint=true then match E.P.underlying t with
  |some (.map kt et)=>if(rR E.P kt).isSome then(if E.Ak site then(match E.P.underlying et with
   |some (.slice e)=>fresh draw site (.fe kt e []) f m fun f m ft=>k (.om site) f m ft
   |_=>none)
   else fresh draw site (.map kt []) f m fun f m ft=>k (.om site) f m ft)else none
  |_=>none
  else none
 |.makeSlice t l c=>qj E draw site t (bw E f l) (bw E f c) f m k
 |.slice t x lo hi mx=>tS E t (bw E f x) (lo.map (bw E f)) (hi.map (bw E f)) (mx.map (bw E f)) m fun v ft=>k v f m ft
 |.fieldAddr s x j=>jR E s (bw E f x) j fun v=>k v f m []
 |.field s x j=>C2 E s (bw E f x) j fun v=>k v f m []
 |.indexAddr t x ix=>c8 E t (bw E f x) (bw E f ix) m fun v ft=>k v f m ft
 |.index t x ix=>Av E t (bw E f x) (bw E f ix) fun v=>k v f m []
 |.lookup t x ix ok=>if E.Ak site&& !ok then I9 E site t (bw E f x) (bw E f ix) m fun v m ft=>k v f m ft else tT E t (bw E f x) (bw E f ix) ok m fun v ft=>k v f m ft
 |.mapUpdate t x key v=>nr E draw t (bw E f x) (bw E f key) (bw E f v) m fun m ft=>k .top f m ft
 |.insert t x key v=>nr E draw t (bw E f x) (bw E f key) (bw E f v) m fun m ft=>k .top f m ft
 |.range t x=>if draw then none else LY E site t (bw E f x) f m fun v f m=>k v f m [(true,0)]
 |.next x s=>if draw||s then none else TA E (bw E f x) f m fun v f m=>k v f m [(true,0)]
 |.entry x=>if draw then none else LZ (bw E f x) m fun v m=>k v f m [(true,0)]
 |.extract t i=>match bw E f t with
  |.bt vs=>match vs[i]? with
   |some v=>k v f m []
   |none=>none
  |_=>none
 |.call c=>match c.callee,c.args.toList.map (bw E f)with
  |.builtin .len,[x]=>match c.argTypes.toList with
   |[t]=>I8 E t x m fun v ft=>k v f m ft
   |_=>none
  |.builtin .append,[s,x]=>match c.argTypes.toList with
   |[t,t']=>zd E draw site t t' s x f m fun v f m=>k v f m [(true,0)]
   |_=>none
  |.builtin .copy,[d,x]=>match c.argTypes.toList with
   |t::_=>Ja E t d x m fun v m ft=>k v f m ft
   |_=>none
  |.builtin .clear,[x]=>match c.argTypes.toList with
   |t::_=>C5 E t x m fun v m ft=>k v f m ft
   |_=>none
  |.builtin .min,[a,b]=>Jb a b fun p=>k (.pv p) f m []
  |.builtin .max,[a,b]=>Bv a b fun p=>k (.pv p) f m []
  |.builtin .max,[a,b,c,d]=>Jc a b c d fun p=>k (.pv p) f m []
  |.value (.func g),args=>uT E draw site g args f m k
  |.value (.tmp t),args=>match bw E f (.tmp t)with
   |.fn g caps=>uT E draw site (uV g) (xW g caps args) f m k
   |.pv (.fn g caps)=>uT E draw site (uV g) (xW g (caps.map .pv) args) f m k
   |.yl id=>if draw then none else E.yl R E.fn.ntmps site id args f m fun v f m=>k v f m [(true,0)]
   |_=>none
  |_,_=>none
 |_=>none
noncomputable def Jd(draw:Bool)(site:Nat)(o:Oper)(f:Fr)(m:Mem)(k:V→Fr→Mem→bk→Option R):Option R:=
 match(bif draw then none else bif E.Ak site then xV E site o f m else none)with
 |some sp=>YS E site sp f m k
 |none=>cJ E draw site o f m k
def ff(o:Oper):Bool:=
 match o.op with
 |.move _|.assign _|.pick .. |.load .. |.nilCheck _|.binOp .. |.unOp .. |.convert .. |.slice .. |.fieldAddr .. |.field .. |.indexAddr .. |.index .. |.lookup .. |.extract .. |.build .. =>true
 |.call {callee:=.builtin .len,.. }|.call {callee:=.builtin .min,.. }|.call {callee:=.builtin .max,.. }=>true
 |.call {callee:=.value _,.. }=>true
 |_=>false
def ze:bk→Bool
 |[]=>true
 |(w,_)::r=> !w&&ze r
abbrev Log:=List (Nat×Bool×Nat)
def C7(o:Oper)(j:Nat):Bool:=o.after.toList.any fun e=>Region.binds .any e&&Nat.beq e.on j
mutual
def V.ids:V→List Nat
 |.agg cs=>Je cs
 |.bt cs=>Je cs
 |.fn _ cs=>Je cs
 |.os j=>[j]
 |.fH j _ _=>[j]
 |.oe j _ _=>[j]
 |.om j=>[j]
 |.vp j _ _=>[j]
 |.y7 j _ _ _ _ _=>[j]
 |.op j _=>[j]
 |.yl j=>[j]
 |.it j=>[j]
 |_=>[]
def Je:List V→List Nat
 |[]=>[]
 |v::r=>v.ids++Je r
end
def C8:Option bE→List Nat
 |some (.box cs)=>Je cs
 |_=>[]
def wJ(n:Nat):Nat:=n+2037035976334486086268445688409378161051468393665936250636140449354381299763336706183397376
def Hj(m m':Mem):bk→List Nat
 |[]=>[]
 |x::r=>C8 (m x.2)++C8 (m' x.2)++Hj m m' r
def CD(ops:Array Oper)(o:Oper)(f:Fr)(m m':Mem)(v:V)(ft:bk):List Nat:=Je ((o.looksAt ops).map f)++v.ids++Hj m m' ft
def cC(E:Env)(d:Option Nat):Nat:=match d with|some d=>E.fid*4096+d|none=>E.fid*4096+4095
def isApp(E:Env)(o:Oper):Bool:=E.Ak (cC E o.dst)||match o.op with|.call {callee:=.builtin .append,.. }=>true|_=>false
def tV(E:Env)(f:Fr)(m:Mem)(o:Oper):Option (Nat×bk):=
 match o.op with
 |.call c=>match c.callee,c.args.toList.map (bw E f),c.argTypes.toList with
  |.builtin .append,[.os id,x],[t,_]=>match E.P.underlying t with
   |some (.slice e)=>match eM m (aP E.P e) x with
    |some (_,rd)=>if x.has id then none else some (id,rd)
    |none=>none
   |_=>none
  |_,_,_=>none
 |_=>none
def Hk(E:Env)(f:Fr)(m:Mem)(o:Oper):Option (Kl×bk):=
 match(bif E.Ak (cC E o.dst)then xV E (cC E o.dst) o f m else none)with
 |some sp=>some (sp.info (cC E o.dst))
 |none=>match tV E f m o with
  |some (id,rd)=>some ([(true,id)],(true,id)::rd)
  |none=>none
def reach(ops:Array Oper):Nat→Oper→Nat→Bool
 |0,o,j=>C7 o j
 |n+1,o,j=>C7 o j||o.after.toList.any fun e=>Region.binds .any e&&match ops[e.on]? with|some p=>reach ops n p j|none=>false
def PQ(ops:Array Oper)(o:Oper)(w:Bool)(id:Nat):Log→Bool
 |[]=>true
 |(j,w',pI)::r=>(!(Nat.beq id pI)||(!w&& !w')||reach ops 4 o j)&&PQ ops o w id r
def Ay(ops:Array Oper)(o:Oper)(lg:Log):bk→Bool
 |[]=>true
 |(w,id)::r=>PQ ops o w id lg&&Ay ops o lg r
def CE(ops:Array Oper)(o:Oper)(id:Nat):Log→Bool
 |[]=>true
 |(j,_,n)::r=>(!(Nat.beq n (wJ id))||reach ops 4 o j)&&CE ops o id r
def wK(ops:Array Oper):List (Nat×Oper)→Oper→Bool
 |[],_=>true
 |(j,p)::r,o=>(p.apart ops o||reach ops 4 o j)&&wK ops r o
def nV(ops:Array Oper):List (Nat×Oper)→List (Nat×Oper)→Bool
 |_,[]=>true
 |done,(i,o)::r=>o.after.toList.all (fun e=> !(Region.binds .any e)||Nat.blt e.on i)&&wK ops done o&&nV ops ((i,o)::done) r
def guardOf(o:Oper)(A:List (Nat×Bool)):Option (Nat×Bool):=
 match o.guard with
 |none=>none
 |some g=>if A.elem g then none else some g
def Bw(A:List (Nat×Bool)):List (Nat×Oper)→List (Nat×Oper)×List (Nat×Oper)
 |[]=>([],[])
 |x::r=>match guardOf x.2 A with
  |some _=>let(a,b):=Bw A r;(x::a,b)
  |none=>([],x::r)
def mb(f:Fr):List (Nat×Oper)→Fr
 |[]=>f
 |x::r=>mb (jc f x.2.dst .top) r
def vu(g:Nat×Bool):List Nat→List (Nat×Oper)→Bool
 |_,[]=>true
 |done,x::r=>(match x.2.guard with
  |some h=>(Nat.beq h.1 g.1&&(h.2==g.2))||done.elem h.1
  |none=>false)&&vu g (x.1::done) r
def blind(ops:Array Oper)(body:List (Nat×Oper))(o:Oper):Bool:=body.all fun y=>match y.2.dst with
  |some d=> !((o.looksAt ops).elem d)
  |none=>true
def FM:Bool→Bool→Bool
 |true,b=>b
 |false,b=> !b
def iJ(f:Fr):List (Nat×Oper)→Fr
 |[]=>f
 |x::r=>iJ (jc f x.2.dst (.bt [])) r
def xp:V→Option Bool
 |.pv (.bool b)=>some b
 |_=>none
end
def vv(E:Env)(o:Oper):Bool:=match o.dst with|some d=>Nat.blt d E.fn.ntmps|none=>true
def Hl(E:Env)(g:FuncId):Bool:=match E.P.funcs[g]? with|some fn=>fn.resultTypes.toList.all (tU E)|none=>false
def WU(E:Env)(f:Fr)(body:List (Nat×Oper))(o:Oper):Bool:=
 ff o&&match o.op with
 |.call {callee:=.value (.func g),.. }=>(E.ctx g).isSome&&Hl E g
 |.call {callee:=.value (.tmp t),.. }=>match(match body.find? (fun x=>x.2.dst==some t)with
  |some (_,p)=>(match p.op with
   |.move y=>bw E f y
   |.assign y=>bw E f y
   |_=>.top)
  |none=>bw E f (.tmp t))with
  |.fn g _=>(E.ctx (uV g)).isSome&&Hl E (uV g)
  |.pv (.fn g _)=>(E.ctx (uV g)).isSome&&Hl E (uV g)
  |.yl _=>false
  |_=>true
 |_=>true
noncomputable def cj(E:Env)(ops:Array Oper)(mode:Nat):(fuel:Nat)→(R:Type)→List (Nat×Bool)→List (Nat×Oper)→Fr→Mem→Log→(Fr→Mem→Option R)→Option R
 |0,_,_,_,_,_,_,_=>none
 |_+1,_,_,[],f,m,_,k=>k f m
 |fuel+1,R,A,(i,o)::rest,f,m,lg,k=>
  match guardOf o A with
  |none=>
   if vv E o then
    match(bif Nat.beq mode 2 then Hk E f m o else none)with
    |some (kl,ft)=>
     if Ay ops o lg ft&&kl.all (fun x=>CE ops o x.2 lg)&&rest.all (fun x=>reach ops 4 x.2 i)then Jd E false (cC E o.dst) o f m fun v f1 m1 _=>cj E ops mode fuel R A rest (jc f1 o.dst v) m1 (ft.map (fun x=>(i,x))++lg) k
     else none
    |none=>Jd E (Nat.beq mode 1||Nat.beq mode 2) (cC E o.dst) o f m fun v f1 m1 ft=>
      if Nat.beq mode 2 then(if Ay ops o lg ft then cj E ops mode fuel R A rest (jc f1 o.dst v) m1 ((bif ops.toList.any (isApp E)then(CD ops o f m m1 v ft).map (fun n=>(i,false,wJ n))else[])++(ft.map (fun x=>(i,x))++lg)) k else none)
      else if Nat.beq mode 0 then cj E ops mode fuel R A rest (jc f1 o.dst v) m1 lg k
      else if ze ft then cj E ops mode fuel R A rest (jc f1 o.dst v) m1 lg k
      else none
   else none
  |some (j,Az)=>
   match((ops[j]?).bind (·.dst))with
   |some tj=>match bw E f (.tmp tj)with
    |.pv (.bool b)=>
     match Bw A ((i,o)::rest)with
     |(body,Jf)=>
     if Nat.beq mode 0&& !(body.all fun x=>WU E f body x.2)then
      (if(body.all fun x=>vv E x.2)&&vu (j,Az) [] body&&((i,o)::rest).all (fun x=> !(x.2.dst==some tj))then
       bif FM Az b then cj E ops mode fuel R ((j,Az)::A) ((i,o)::rest) (fI f tj (.pv (.bool Az))) m lg k
       else cj E ops mode fuel R A Jf (iJ (fI f tj (.pv (.bool !Az))) body) m lg k
      else none)
     else match Jf with
     |(_,p)::mc=>
      match p.op with
      |.pick (.tmp c) x y=>
       if Nat.beq c tj&&(guardOf p A).isNone&&body.all (fun x=>ff x.2&&vv E x.2&& !(x.2.dst==some tj))&&vu (j,Az) [] body&&mc.all (fun x=>blind ops body x.2)&&vv E p&& !(Nat.beq mode 2)then
        (match Az with
         |true=>bif b then cj E ops (bif Nat.beq mode 0 then 3 else mode) fuel Bool ((j,Az)::A) body f m lg (fun f _=>xp (bw E f x))else xp (bw E (mb f body) y)
         |false=>bif b then xp (bw E (mb f body) x)else cj E ops (bif Nat.beq mode 0 then 3 else mode) fuel Bool ((j,Az)::A) body f m lg (fun f _=>xp (bw E f y))).bind fun r=>
        cj E ops mode fuel R A mc (jc (mb f body) p.dst (.pv (.bool r))) m lg k
       else none
      |_=>none
     |[]=>none
    |_=>none
   |none=>none
inductive Ex where
 |normal
 |exit (id:Nat)
 |ret
def Jg{R:Type}(body:Fr→Mem→(Fr→Mem→Option R)→Option R):Nat→Fr→Mem→Option R
 |0,_,_=>none
 |n+1,f,m=>body f m (Jg body n)
def wL:Code→Nat
 |.region id _ _=>id
 |.seq a _=>wL a
 |.cond _ a _=>wL a
 |.block _ b=>wL b
 |.loop b=>wL b
 |.scope b=>wL b
 |_=>0
def PR:List Sh→Type→Type
 |[],T=>T
 |.raw::r,T=>PV×PR r T
 |.int _::r,T=>Int×PR r T
 |.bool::r,T=>Bool×PR r T
 |.str::r,T=>Bytes×PR r T
 |.rs _::r,T=>List PV×PR r T
 |.rp _::r,T=>PV×PR r T
 |.fs _::r,T=>List PV×PR r T
 |.row _ _::r,T=>Int×PR r T
 |.own _::r,T=>PR r T
def I1:List (Nat×Tv)→Type
 |[]=>Unit
 |(_,.box cs)::r=>PR cs (I1 r)
 |(_,.arr _ _)::r=>List PV×I1 r
 |(_,.pR _ _)::r=>List PV×I1 r
 |(_,.map _)::r=>List (PV×PV)×I1 r
 |(_,.nest _ _)::r=>List PV×I1 r
 |(_,.fe _ _)::r=>List (PV×PV)×I1 r
 |(_,.loop)::r=>I1 r
 |(_,.busy)::r=>I1 r
 |(_,.iter _)::r=>List (PV×PV)×I1 r
def gi.jN(T:gi):List Sh:=T.az.map Prod.snd
abbrev gi.ty(T:gi):Type:=PR T.jN (I1 T.bX)
mutual
def V.same:V→V→Bool
 |.op i o,.op j p=>Nat.beq i j&&Nat.beq o p
 |.oe i a o,.oe j b p=>Nat.beq i j&&Nat.beq a b&&Nat.beq o p
 |.os i,.os j=>Nat.beq i j
 |.om i,.om j=>Nat.beq i j
 |.yl i,.yl j=>Nat.beq i j
 |.it i,.it j=>Nat.beq i j
 |.hZ,.hZ=>true
 |.pv .pF,.pv .pF=>true
 |.pv .ve,.pv .ve=>true
 |.pv (.int q x),.pv (.int q' y)=>decide (q=q')&&decide (x=y)
 |.fn f cs,.fn g ds=>Nat.beq f g&&FN cs ds
 |_,_=>false
def FN:List V→List V→Bool
 |[],[]=>true
 |a::as,b::bs=>a.same b&&FN as bs
 |_,_=>false
end
section
variable {R:Type}
def jO{T:Type}:(jN:List Sh)→List V→T→(PR jN T→Option R)→Option R
 |[],[],t,k=>k t
 |.int q::jN,.pv (.int q' n)::vs,t,k=>if q'=q then jO jN vs t (fun r=>k (n,r))else none
 |.raw::jN,.pv p::vs,t,k=>jO jN vs t (fun r=>k (p,r))
 |.bool::jN,.pv (.bool b)::vs,t,k=>jO jN vs t (fun r=>k (b,r))
 |.str::jN,.pv (.str s)::vs,t,k=>jO jN vs t (fun r=>k (s,r))
 |.rs sz::jN,.pv (.rs Fb es)::vs,t,k=>if Fb=sz then jO jN vs t (fun r=>k (es,r))else none
 |.rp n::jN,.pv (.rp cs)::vs,t,k=>if cs.length=n then jO jN vs t (fun r=>k (.agg cs,r))else none
 |.fs s::jN,.pv p::vs,t,k=>(WT s p).bind fun ls=>jO jN vs t (fun r=>k (ls,r))
 |.row id off::jN,.vp pI i si::vs,t,k=>if pI=id∧si=off then jO jN vs t (fun r=>k ((i:Int),r))else none
 |.own v::jN,u::vs,t,k=>if v.same u then jO jN vs t k else none
 |_,_,_,_=>none
def sT(m:Mem):(bs:List (Nat×Tv))→(I1 bs→Option R)→Option R
 |[],k=>k ()
 |(id,.box cs)::r,k=>match m id with
  |some (.box vs)=>sT m r fun t=>jO (T:=I1 r) cs vs t k
  |_=>none
 |(id,.arr sz et)::r,k=>match m id with
  |some (.arr Fb C4 es)=>if Fb=sz∧C4=et then sT m r fun t=>k (es,t)else none
  |_=>none
 |(id,.pR sz et)::r,k=>match m id with
  |some (.pR Fb C4 es)=>if Fb=sz∧C4=et then sT m r fun t=>k (es,t)else none
  |_=>none
 |(id,.map kt)::r,k=>match m id with
  |some (.map vh es)=>if vh=kt then sT m r fun t=>k (es,t)else none
  |_=>none
 |(id,.nest sz et)::r,k=>match m id with
  |some (.nest Fb C4 es)=>if Fb=sz∧C4=et then sT m r fun t=>k (es,t)else none
  |_=>none
 |(id,.fe kt e)::r,k=>match m id with
  |some (.fe vh e' es)=>if vh=kt∧e'=e then sT m r fun t=>k (es,t)else none
  |_=>none
 |(id,.loop)::r,k=>match m id with
  |some (.loop .ready)=>sT m r k
  |_=>none
 |(id,.busy)::r,k=>match m id with
  |some (.loop .busy)=>sT m r k
  |_=>none
 |(id,.iter t)::r,k=>match m id with
  |some (.iter t' es none)=>if t'=t then sT m r fun u=>k (es,u)else none
  |_=>none
def Sh.within(M:List Nat):Sh→Bool
 |.own v=>v.within M
 |.row id _=>M.elem id
 |_=>true
def Tv.within(M:List Nat):Tv→Bool
 |.box cs=>cs.all (·.within M)
 |_=>true
def gi.ok(T:gi):Bool:=T.az.all (fun x=>x.2.within (T.bX.map (·.1)))&&T.bX.all (fun x=>x.2.within (T.bX.map (·.1)))
def C9:List Sh→List V→Bool
 |[],[]=>true
 |.raw::jN,.pv _::vs=>C9 jN vs
 |.int q::jN,.pv (.int q' _)::vs=>decide (q'=q)&&C9 jN vs
 |.bool::jN,.pv (.bool _)::vs=>C9 jN vs
 |.str::jN,.pv (.str _)::vs=>C9 jN vs
 |.rs sz::jN,.pv (.rs Fb _)::vs=>Nat.beq Fb sz&&C9 jN vs
 |.rp n::jN,.pv (.rp cs)::vs=>Nat.beq cs.length n&&C9 jN vs
 |.fs s::jN,.pv p::vs=>(WT s p).isSome&&C9 jN vs
 |.row id off::jN,.vp pI _ si::vs=>Nat.beq pI id&&Nat.beq si off&&C9 jN vs
 |.own v::jN,u::vs=>v.same u&&C9 jN vs
 |_,_=>false
def Fj(m:Mem):List (Nat×Tv)→Bool
 |[]=>true
 |(id,.box cs)::r=>(match m id with|some (.box vs)=>C9 cs vs|_=>false)&&Fj m r
 |(id,.arr sz _)::r=>(match m id with|some (.arr Fb _ _)=>Nat.beq Fb sz|_=>false)&&Fj m r
 |(id,.pR sz _)::r=>(match m id with|some (.pR Fb _ _)=>Nat.beq Fb sz|_=>false)&&Fj m r
 |(id,.map _)::r=>(match m id with|some (.map _ _)=>true|_=>false)&&Fj m r
 |(id,.nest sz _)::r=>(match m id with|some (.nest Fb _ _)=>Nat.beq Fb sz|_=>false)&&Fj m r
 |(id,.fe _ _)::r=>(match m id with|some (.fe _ _ _)=>true|_=>false)&&Fj m r
 |(id,.loop)::r=>(match m id with|some (.loop .ready)=>true|_=>false)&&Fj m r
 |(id,.busy)::r=>(match m id with|some (.loop .busy)=>true|_=>false)&&Fj m r
 |(id,.iter _)::r=>(match m id with|some (.iter _ _ none)=>true|_=>false)&&Fj m r
def fits(f:Fr)(m:Mem)(T:gi):Bool:=Fj m T.bX&&C9 T.jN (T.az.map fun(x:Nat×Sh)=>f x.1)
def enc(T:gi)(f:Fr)(m:Mem)(k:T.ty→Option R):Option R:=if T.ok then sT m T.bX fun t=>jO (T:=I1 T.bX) T.jN (T.az.map fun(x:Nat×Sh)=>f x.1) t k else none
end
def rK{T:Type}:(jN:List Sh)→PR jN T→List V×T
 |[],t=>([],t)
 |.int q::jN,x=>let r:=rK jN x.2;(.pv (.int q x.1)::r.1,r.2)
 |.raw::jN,x=>let r:=rK jN x.2;(.pv x.1::r.1,r.2)
 |.bool::jN,x=>let r:=rK jN x.2;(.pv (.bool x.1)::r.1,r.2)
 |.str::jN,x=>let r:=rK jN x.2;(.pv (.str x.1)::r.1,r.2)
 |.rs sz::jN,x=>let r:=rK jN x.2;(.pv (.rs sz x.1)::r.1,r.2)
 |.rp n::jN,x=>let r:=rK jN x.2;(.pv (.rp (aC n x.1))::r.1,r.2)
 |.fs s::jN,x=>let r:=rK jN x.2;(.pv (Hf s ((List.range s.n).map fun j=>x.1.getD j .bad)).1::r.1,r.2)
 |.row id off::jN,x=>let r:=rK jN x.2;(.vp id x.1.toNat off::r.1,r.2)
 |.own v::jN,x=>let r:=rK (T:=T) jN x;(v::r.1,r.2)
def gJ:(bs:List (Nat×Tv))→I1 bs→List (Nat×Option bE)
 |[],_=>[]
 |(id,.box cs)::r,x=>let y:=rK (T:=I1 r) cs x;(id,some (.box y.1))::gJ r y.2
 |(id,.arr sz et)::r,x=>(id,some (.arr sz et x.1))::gJ r x.2
 |(id,.pR sz et)::r,x=>(id,some (.pR sz et x.1))::gJ r x.2
 |(id,.map kt)::r,x=>(id,some (.map kt x.1))::gJ r x.2
 |(id,.nest sz et)::r,x=>(id,some (.nest sz et x.1))::gJ r x.2
 |(id,.fe kt e)::r,x=>(id,some (.fe kt e x.1))::gJ r x.2
 |(id,.loop)::r,x=>(id,some (.loop .ready))::gJ (r:List (Nat×Tv)) x
 |(id,.busy)::r,x=>(id,some (.loop .busy))::gJ (r:List (Nat×Tv)) x
 |(id,.iter t)::r,x=>(id,some (.iter t x.1 none))::gJ r x.2
def qk:List (Nat×Sh)→List V→List (Nat×V)
 |(t,_)::r,v::vs=>(t,v)::qk r vs
 |_,_=>[]
def L3(T:gi)(x:T.ty):Fr:=LV (qk T.az (rK (T:=I1 T.bX) T.jN x).1)
def Da(T:gi)(x:T.ty):Mem:=CX (gJ T.bX (rK (T:=I1 T.bX) T.jN x).2)
def Bx{A:Type}:List (Nat×Nat)→Fr→Mem→(Fr→Mem→A)→A
 |[],f,m,k=>k f m
 |(t,sz)::r,f,m,k=>match f t with
  |.os id=>match m id with
   |some (.arr s et es)=>Bx r (fI f t (.pv (.rs s es))) (ak m id (.pR s et es)) k
   |some (.pR s _ es)=>Bx r (fI f t (.pv (.rs s es))) m k
   |_=>Bx r f m k
  |.hZ=>Bx r (fI f t (.pv (.rs sz []))) m k
  |_=>Bx r f m k
def FO{A:Type}:List (Nat×Nat×Nat)→Mem→(Mem→A)→A
 |[],m,k=>k m
 |(id,j,sz)::r,m,k=>match m id with
  |some (.box cs)=>match cs[j]? with
   |some .hZ=>FO r (ak m id (.box (cs.set j (.pv (.rs sz []))))) k
   |_=>FO r m k
  |_=>FO r m k
def Bz{A:Type}(P:Program):List (Nat×Nat×Nat×TypeId)→Mem→(Mem→A)→A
 |[],m,k=>k m
 |(id,j,TC,et)::r,m,k=>match m id with
  |some (.box cs)=>match cs[j]? with
   |some .hZ=>match m TC with
    |none=>if 0<aP P et then Bz P r (ak (ak m TC (.arr (aP P et) et [])) id (.box (cs.set j (.os TC)))) k else Bz P r m k
    |some _=>Bz P r m k
   |_=>Bz P r m k
  |_=>Bz P r m k
def Jh{A:Type}:List Nat→Mem→(Mem→A)→A
 |[],m,k=>k m
 |id::r,m,k=>match m id with
  |some (.arr s et es)=>Jh r (ak m id (.nest s et es)) k
  |_=>Jh r m k
def BA{A:Type}:List (Nat×Nat)→Fr→Mem→(Fr→Mem→A)→A
 |[],f,m,k=>k f m
 |(id,j)::r,f,m,k=>match m id with
  |some (.box cs)=>match cs[j]? with
   |some (.fH a 0 len)=>match m a with
    |some (.arr s et es)=>if Nat.beq a id then BA r f m k else BA r (eU a f) (ak (ak (bh (bx a m) a) a (.arr s et (es.take len))) id (.box ((cs.map (rS a)).set j (.os a)))) k
    |_=>BA r f m k
   |_=>BA r f m k
  |_=>BA r f m k
def FP{A:Type}(P:Program)(T:gi)(f:Fr)(m:Mem)(k:Fr→Mem→A):A:=BA T.ct f m fun f m=>Bz P T.bo m fun m=>FO T.bz m fun m=>Jh T.nz m fun m=>Bx T.fz f m k
variable{R:Type}
def Ex.Ji(k1:Fr→Mem→Option R)(k:Ex→Fr→Mem→Option R):Ex→Fr→Mem→Option R
 |.normal,f,m=>k1 f m
 |e,f,m=>k e f m
def Ex.TD(id:Nat)(k:Ex→Fr→Mem→Option R):Ex→Fr→Mem→Option R
 |.exit j,f,m=>if j=id then k .normal f m else k (.exit j) f m
 |e,f,m=>k e f m
def Ex.jmp:Ex→Option Jmp
 |.normal=>none
 |.exit id=>some (.exit id)
 |.ret=>some .ret
def Jmp.ex:Jmp→Ex
 |.ret=>.ret
 |.exit id=>.exit id
def PS(n:Nat)(g f:Fr):Fr:=fun t=>bif Nat.blt t n then g t else f (t-n)
def Db:List Nat→List V→Fr→Fr
 |p::ps,v::vs,f=>Db ps vs (fI f p v)
 |_,_,f=>f
def roundOf(as b:Fr→Mem→(Ex→Fr→Mem→Option R)→Option R)(lid n:Nat)(ps:List Nat)(nt:Nat)(args:List V)(F:Fr)(m:Mem)(k:V→Fr→Mem→Option R):Option R:=
 match m lid with
 |some (.loop .ready)=>if args.length=ps.length then
  as (PS n (Db ps args (vt nt F)) F) m fun e f m=>match e,m lid with
   |.normal,some (.loop .ready)=>b f (ak m lid (.loop .busy)) fun e f m=>match m lid with
    |some (.loop .busy)=>match e.jmp with
     |none=>k (.pv (.bool true)) (vt n f) (ak m lid (.loop .ready))
     |some j=>k (.pv (.bool false)) (vt n f) (ak m lid (.loop (.done j)))
    |_=>none
   |_,_=>none
  else none
 |_=>none
def Z1:V→Option (FuncId×List V)
 |.fn g caps=>bif Nat.blt g Cg then some (g,caps)else none
 |.pv (.fn g caps)=>bif Nat.blt g Cg then some (g,caps.map .pv)else none
 |_=>none
def abx(E:Env)(o:Oper):Bool:=match o.op with
 |.call c=>match c.callee with
  |.value (.func g)=>(E.ctx g).isNone&&(E.own g).isNone
  |_=>false
 |_=>false
def WV(E:Env)(ops:Array Oper):Option Nat:=ops.toList.findIdx? (abx E)
def TE(ops:Array Oper)(p:Nat):Bool:=match ops[p]? with
 |none=>false
 |some o=>o.guard.isNone&&o.after.toList.all (fun e=> !(Region.binds .any e)||Nat.blt e.on p)&&((List.range ops.size).zip ops.toList).all fun x=>bif Nat.blt x.1 p then reach ops 8 o x.1 else Nat.beq x.1 p||reach ops 8 x.2 p
noncomputable def fu:(E:Env)→{R:Type}→Code→Fr→Mem→(Ex→Fr→Mem→Option R)→Option R
 |E,_,.skip,f,m,k=>k .normal f m
 |E,R,.region _ ops draw,f,m,k=>
  if draw then
   match WV E ops with
   |some p=>if TE ops p&&nV ops [] (((List.range ops.size).zip ops.toList).take p)&&nV ops [] (((List.range ops.size).zip ops.toList).drop (p+1))then
     cj E ops 2 (ops.size+1) R [] (((List.range ops.size).zip ops.toList).take p) f m [] fun f m=>
     cj E ops 0 3 R [] ((((List.range ops.size).zip ops.toList).drop p).take 1) f m [] fun f m=>
     cj E ops 2 (ops.size+1) R [] (((List.range ops.size).zip ops.toList).drop (p+1)) f m [] fun f m=>k .normal f m
    else none
   |none=>
   (if nV ops [] ((List.range ops.size).zip ops.toList)then
    (if ops.toList.all ff then cj E ops 1 (ops.size+1) R [] ((List.range ops.size).zip ops.toList) f m [] fun f m=>k .normal f m
    else cj E ops 2 (ops.size+1) R [] ((List.range ops.size).zip ops.toList) f m [] fun f m=>k .normal f m)
   else none)
  else cj E ops 0 (ops.size+ops.size+1) R [] ((List.range ops.size).zip ops.toList) f m [] fun f m=>k .normal f m
 |E,R,.seq a b,f,m,k=>fu E a f m (Ex.Ji (fun f m=>fu E b f m k) k)
 |E,R,.cond c a b,f,m,k=>match c,bw E f c with
  |.tmp x,.pv (.bool t)=>if t then fu E a (fI f x (.pv (.bool true))) m k else fu E b (fI f x (.pv (.bool false))) m k
  |_,_=>none
 |E,R,.block id b,f,m,k=>fu E b f m (Ex.TD id k)
 |E,R,.loop b,f,m,k=>match(E.hint E.fid (wL b)).find? (fun T=>FP E.P T f m fun f m=>fits f m T)with
  |some T=>FP E.P T f m fun f m=>enc T f m (E.lp.run fun s rec=>fu E b (L3 T s) (Da T s) (Ex.Ji (fun f m=>FP E.P T f m fun f m=>enc T f m rec) k))
  |none=>Jg (fun f m rec=>fu E b f m (Ex.Ji rec k)) E.u f m
 |E,R,.exit id,f,m,k=>k (.exit id) f m
 |E,R,.ret,f,m,k=>k .ret f m
 |E,R,.label _,f,m,k=>k .normal f m
 |E,R,.scope b,f,m,k=>fu E b f m k
 |E,R,.rangeFunc g ps as b,f,m,k=>if E.Z0 then none else match ps.toList with
  |p0::_=>fresh true (cC E (some p0)) (.loop .ready) f m fun f m _=>match Z1 (bw E f g)with
   |some (gid,caps)=>E.ZZ R gid (cC E (some p0)*4096+gid) (fun _ nt site id args F m k=>bif Nat.beq id (cC E (some p0))then
     roundOf (fu {E with fid:=site*4096+E.fid%4096,yl:=Aq,Z0:=true} as) (fu {E with fid:=site*4096+E.fid%4096,yl:=Aq,Z0:=true} b) (cC E (some p0)) E.fn.ntmps ps.toList nt args F m k
     else none)
    (.yl (cC E (some p0))::caps) f m fun _ f m=>match m (cC E (some p0))with
     |some (.loop .ready)=>k .normal (eU (cC E (some p0)) f) (bh (bx (cC E (some p0)) m) (cC E (some p0)))
     |some (.loop (.done j))=>k j.ex (eU (cC E (some p0)) f) (bh (bx (cC E (some p0)) m) (cC E (some p0)))
     |_=>none
   |_=>none
  |[]=>none
 |_,_,_,_,_,_=>none
def zf(E:Env){R:Type}(f:Fr)(m:Mem):List ResultVar→(List V→Option R)→Option R
 |[],k=>k []
 |.tmp t::rs,k=>zf E f m rs fun vs=>k (bw E f (.tmp t)::vs)
 |.cell a t::rs,k=>pz E false t (bw E f (.tmp a)) m fun v _=>zf E f m rs fun vs=>k (v::vs)
def TF(E:Env)(rs:List ResultVar)(f:Fr)(m:Mem):Option PV:=zf E f m rs fun vs=>match vs with
  |[v]=>kD m eL v
  |vs=>(pH (kD m eL) vs).bind fun ps=>some (.bt ps)
section
variable {R:Type} (E:Env)
def Hm(t:TypeId)(p:PV)(k:PV→Option R):Option R:=
 match E.P.underlying t with
 |some (.int _)=>gr E t p k
 |some .bool=>gr E t p k
 |some .string=>gr E t p k
 |some (.slice _)=>gr E t p k
 |some (.map _ _)=>gr E t p k
 |_=>k p
def pJ:List TypeId→List PV→(List PV→Option R)→Option R
 |t::ts,p::ps,k=>Hm E t p fun q=>pJ ts ps fun qs=>k (q::qs)
 |_,ps,k=>k ps
def PT(n:Nat)(p:PV)(a:Option R)(b:PV→Option R):Option R:=
 match p with
 |.pF=>a
 |.rp cs=>if n≤cs.length then b (.agg cs)else none
 |_=>none
def TG(t:TypeId)(p:PV)(k:PV→Option R):Option R:=
 match E.P.underlying t with
 |some (.struct _)=>(asAgg (aP E.P t) p).bind fun _=>match C6 E.P 8 t with
  |some ts=>pJ E ts (aC (aP E.P t) p) fun cs=>k (.agg cs)
  |none=>none
 |some (.array _ _)=>(asAgg (aP E.P t) p).bind fun _=>match C6 E.P 8 t with
  |some ts=>pJ E ts (aC (aP E.P t) p) fun cs=>k (.agg cs)
  |none=>none
 |some (.pointer e)=>PT (aP E.P e) p (k .pF) fun q=>match C6 E.P 8 e with
  |some ts=>pJ E ts (aC (aP E.P e) q) fun cs=>k (.rp cs)
  |none=>none
 |_=>Hm E t p k
def xX:List TypeId→List PV→(List PV→Option R)→Option R
 |t::ts,p::ps,k=>TG E t p fun q=>xX ts ps fun qs=>k (q::qs)
 |_,ps,k=>k ps
end
def Dc(args:List V):Fr:=fun t=>args.getD t .top
noncomputable def CF(E:Env)(args:List V)(f:Fr)(m:Mem)(k:V→Fr→Mem→Option R):Option R:=
 match E.fn.body with
 |some c=>if args.length≤E.fn.ntmps then fu E c (uU E.fn.ntmps args f) m (fun e f m=>match e with
  |.exit _=>none
  |_=>zf E f m E.fn.results.toList fun vs=>match vs with
   |[v]=>k v (vt E.fn.ntmps f) m
   |vs=>k (.bt vs) (vt E.fn.ntmps f) m)else none
 |none=>none
def Z2(E:Env)(f:Fr)(m:Mem):Option PV:=
 match E.fn.resultTypes.toList with
 |[t]=>match E.P.underlying t with
  |some (.slice e)=>zf E f m E.fn.results.toList fun vs=>match vs with
   |[.os id]=>match m id with
    |some (.arr sz et es)=>if sz=aP E.P e∧et=e then some (.rs sz es)else none
    |_=>none
   |[.fH id 0 len]=>match m id with
    |some (.arr sz et es)=>if sz=aP E.P e∧et=e then some (.rs sz (es.take len))else none
    |_=>none
   |_=>none
  |_=>none
 |_=>none
noncomputable def Hn(E:Env)(args:List PV):Option PV:=
 match E.fn.body with
 |some c=>if args.length≤E.fn.ntmps then xX E E.fn.params.toList args fun vs=>fu E c (Dc (vs.map .pv)) (fun _=>none) (fun e f m=>match e with
  |.exit _=>none
  |_=>Z2 E f m)else none
 |none=>none
noncomputable def aq(E:Env)(args:List PV):Option PV:=
 match E.fn.body with
 |some c=>if args.length≤E.fn.ntmps then xX E E.fn.params.toList args fun vs=>fu E c (Dc (vs.map .pv)) (fun _=>none) (fun e f m=>match e with
  |.normal=>TF E E.fn.results.toList f m
  |.ret=>TF E E.fn.results.toList f m
  |.exit _=>none)else none
 |none=>none
end Go.Ab
