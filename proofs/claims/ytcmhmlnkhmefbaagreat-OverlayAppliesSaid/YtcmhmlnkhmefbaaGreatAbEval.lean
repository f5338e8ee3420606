import Derived.Test.YtcmhmlnkhmefbaaGreatAbDefs
import Derived.Deep.Quiet
set_option linter.unusedVariables false
namespace Go.Ab
inductive FS where
 |raw
 |fn (g:FuncId) (mi:List FS)
 |ptr (cells:List FS)
mutual
def UU:FS→PV→Option (List PV)
 |.raw,p=>some [p]
 |.fn g cs,.fn g' qs=>if g'=g then GH cs qs else none
 |.ptr cs,.rp qs=>GH cs qs
 |_,_=>none
def GH:List FS→List PV→Option (List PV)
 |[],[]=>some []
 |s::ss,p::ps=>(UU s p).bind fun a=>(GH ss ps).bind fun b=>some (a++b)
 |_,_=>none
end
mutual
def E2:FS→List PV→PV×List PV
 |.raw,[]=>(.bad,[])
 |.raw,p::r=>(p,r)
 |.fn g cs,l=>(.fn g (zD cs l).1,(zD cs l).2)
 |.ptr cs,l=>(.rp (zD cs l).1,(zD cs l).2)
def zD:List FS→List PV→List PV×List PV
 |[],l=>([],l)
 |s::ss,l=>((E2 s l).1::(zD ss (E2 s l).2).1,(zD ss (E2 s l).2).2)
end
mutual
def FS.n:FS→Nat
 |.raw=>1
 |.fn _ cs=>nFs cs
 |.ptr cs=>nFs cs
def nFs:List FS→Nat
 |[]=>0
 |s::ss=>s.n+nFs ss
end
inductive Sh where
 |raw
 |int (q:IntKind)
 |bool
 |str
 |rs (sz:Nat)
 |rp (n:Nat)
 |fs (s:FS)
 |row (id off:Nat)
 |own (v:V)
inductive Rg where
 |box (cs:List Sh)
 |arr (sz:Nat) (et:TypeId)
 |nZ (sz:Nat) (et:TypeId)
 |map (kt:TypeId)
 |nest (sz:Nat) (et:TypeId)
 |e8 (kt e:TypeId)
 |loop
 |busy
 |iter (t:TypeId)
structure eY where
 ay:List (Nat×Sh)
 bE:List (Nat×Rg)
 fz:List (Nat×Nat):=[]
 bz:List (Nat×Nat×Nat):=[]
 bo:List (Nat×Nat×Nat×TypeId):=[]
 nz:List Nat:=[]
 ct:List (Nat×Nat):=[]
structure bk where
 run:{S R:Type}→(S→(S→Option R)→Option R)→S→Option R
 room:Nat→Bool
 sm:∀n,room n=true→(n:Int)≤IntKind.i64.max
def cj{S R:Type}(body:S→(S→Option R)→Option R):Nat→S→Option R
 |0,_=>none
 |n+1,s=>body s (cj body n)
abbrev YL:=(R:Type)→Nat→Nat→Nat→List V→Fr→Mem→(V→Fr→Mem→Option R)→Option R
def yD:YL:=fun _ _ _ _ _ _ _ _=>none
structure Env where
 P:Program
 ctx:FuncId→Option (List PV→Option PV)
 aH:Nat→Option (List PV)
 fid:FuncId
 fn:Func
 lp:bk
 hint:Nat→Nat→List eY
 u:Nat
 own:FuncId→Option (List PV→Option PV)
 inl:(R:Type)→FuncId→Nat→List V→Fr→Mem→(V→Fr→Mem→Option R)→Option R
 Yb:(R:Type)→FuncId→Nat→YL→List V→Fr→Mem→(V→Fr→Mem→Option R)→Option R
 yl:YL
 Yc:Bool:=false
 fnr:FuncId→Option FS:=fun _=>none
 zF:Nat→Bool:=fun _=>false
section
variable {R:Type} (E:Env)
def dO(kt:TypeId)(p:PV)(a:Option R)(b:List PV→List PV→Option R):Option R:=
 match p with
 |.th=>a
 |.rm tn ks vs=>if tn=kt then b ks vs else none
 |_=>none
def fN(t:TypeId)(p:PV)(k:PV→Option R):Option R:=
 match E.P.underlying t with
 |some (.int q)=>(asInt q p).bind fun n=>k (.int q n)
 |some .bool=>(asBool p).bind fun b=>k (.bool b)
 |some .string=>(bg p).bind fun s=>k (.str s)
 |some (.slice e)=>(ab (aU E.P e) p).bind fun es=>k (.rs (aU E.P e) es)
 |some (.struct _)=>(asAgg (aU E.P t) p).bind fun _=>k (.agg (aK (aU E.P t) p))
 |some (.array _ _)=>(asAgg (aU E.P t) p).bind fun _=>k (.agg (aK (aU E.P t) p))
 |some (.pointer _)=>match p with
  |.nM=>k p
  |.rp _=>k p
  |_=>none
 |some (.map kt _)=>dO kt p (k .th) fun ks vs=>k (.rm kt ks vs)
 |some (.func _ _ _)=>match p with
  |.yB=>k .yB
  |.fn g cs=>k (.fn g cs)
  |_=>none
 |some (.interface _)=>(Nt p).bind fun b=>k (.UE b)
 |_=>none
def xi(t:TypeId)(v:V)(k:V→Option R):Option R:=
 match v with
 |.pv p=>fN E t p fun p=>k (.pv p)
 |.top=>none
 |v=>if(E.P.underlying t).isSome then k v else none
def zG:List TypeId→List PV→(List V→Option R)→Option R
 |[],[],k=>k []
 |t::ts,p::ps,k=>fN E t p fun q=>zG ts ps fun vs=>k (.pv q::vs)
 |_,_,_=>none
def zH(ts:List TypeId)(r:PV)(k:V→Option R):Option R:=
 match ts with
 |[]=>(bJ 0 r).bind fun _=>k (.aZ [])
 |[t]=>fN E t r fun q=>k (.pv q)
 |ts=>(bJ ts.length r).bind fun vs=>zG E ts ((List.range ts.length).map fun j=>vs.getD j .bad) fun us=>k (.aZ us)
def yE(fid:FuncId)(ts:List TypeId)(r:PV)(k:V→Option R):Option R:=
 match E.fnr fid with
 |some s=>(UU s r).bind fun ls=>k (.pv (E2 s ((List.range s.n).map fun j=>ls.getD j .bad)).1)
 |none=>zH E ts r k
def bA(f:Fr):Operand→V
 |.tmp t=>bif Nat.blt t E.fn.ntmps then f t else .top
 |.const c=>DJ c
 |.global g=>match E.aH g with|some cs=>.pv (.rp cs)|none=>.top
 |.func f=>.fn f []
def fresh(draw:Bool)(site:Nat)(b:bL)(f:Fr)(m:Mem)(k:Fr→Mem→bq→Option R):Option R:=
 match m site with
 |none=>k f (au m site b) [(true,site)]
 |some _=>if draw||b.names site then none else k (eP site f) (au (bB site m) site b) [(true,site)]
def oA:V→Option (List V)
 |.pv (.agg cs)=>some (cs.map .pv)
 |.agg cs=>some cs
 |_=>none
def dc:Mem:=fun _=>none
def kV(op:BinOp)(t:TypeId)(a b:V)(k:PV→Option R):Option R:=
 match a,b with
 |.pv (.int q x),.pv (.int q' y)=>match op with
  |.shl=>if y<0 then none else k (.int q (q.wrap (x*2^(min y.toNat q.bits))))
  |.shr=>if y<0 then none else k (.int q (x.fdiv (2^(min y.toNat q.bits))))
  |op=>if q=q' then match op with
   |.add=>k (.int q (q.wrap (x+y)))
   |.sub=>k (.int q (q.wrap (x-y)))
   |.mul=>k (.int q (q.wrap (x*y)))
   |.quo=>if y=0 then none else k (.int q (q.wrap (x.tdiv y)))
   |.rem=>if y=0 then none else k (.int q (x.tmod y))
   |.and=>k (.int q (q.wrap (BitVec.ofInt q.bits x&&&BitVec.ofInt q.bits y).toNat))
   |.or=>k (.int q (q.wrap (BitVec.ofInt q.bits x|||BitVec.ofInt q.bits y).toNat))
   |.xor=>k (.int q (q.wrap (BitVec.ofInt q.bits x^^^BitVec.ofInt q.bits y).toNat))
   |.andNot=>k (.int q (q.wrap (BitVec.ofInt q.bits x&&& ~~~(BitVec.ofInt q.bits y)).toNat))
   |.eql=>k (.bool (x==y))
   |.neq=>k (.bool (x !=y))
   |.lss=>k (.bool (decide (x<y)))
   |.leq=>k (.bool (decide (x≤y)))
   |.gtr=>k (.bool (decide (x>y)))
   |.geq=>k (.bool (decide (x≥y)))
   |_=>none
   else none
 |.pv (.str x),.pv (.str y)=>match op with
  |.add=>if E.lp.room (x.length+y.length)=true then k (.str (x++y))else none
  |.eql=>k (.bool (x==y))
  |.neq=>k (.bool (!(x==y)))
  |.lss=>k (.bool (Op.bytesLess x y))
  |.leq=>k (.bool (Op.bytesLess x y||x==y))
  |.gtr=>k (.bool (!(Op.bytesLess x y||x==y)))
  |.geq=>k (.bool (!(Op.bytesLess x y)))
  |_=>none
 |.pv (.bool x),.pv (.bool y)=>match op,E.P.underlying t with
  |.eql,some .bool=>k (.bool (x==y))
  |.neq,some .bool=>k (.bool (!(x==y)))
  |_,_=>none
 |.pv .nM,.pv .nM=>match op,E.P.underlying t with
  |.eql,some (.pointer _)=>k (.bool true)
  |.neq,some (.pointer _)=>k (.bool false)
  |_,_=>none
 |.fn _ _,.pv .yB|.pv (.fn _ _),.pv .yB=>match op,E.P.underlying t with
  |.eql,some (.func _ _ _)=>k (.bool false)
  |.neq,some (.func _ _ _)=>k (.bool true)
  |_,_=>none
 |.pv (.rp _),.pv .nM|.op _ _,.pv .nM|.oe _ _ _,.pv .nM=>match op,E.P.underlying t with
  |.eql,some (.pointer _)=>k (.bool false)
  |.neq,some (.pointer _)=>k (.bool true)
  |_,_=>none
 |a,b=>if aF E.P t then match qm E.P t,oA a,oA b with
  |some ks,some as,some bs=>match oz (jt dc 1) as,oz (jt dc 1) bs with
   |some as,some bs=>if gX ks as=true∧gX ks bs=true then match op with
    |.eql=>k (.bool (cA as bs))
    |.neq=>k (.bool (!(cA as bs)))
    |_=>none
    else none
   |_,_=>none
  |_,_,_=>none
  else none
def Bi:Operand→Bool
 |.const .nilIface=>true
 |_=>false
def Rh(op:BinOp)(t:TypeId)(a:V)(k:PV→Option R):Option R:=
 match a with
 |.pv (.UE b)=>match op,E.P.underlying t with
  |.eql,some (.interface _)=>k (.bool (!b))
  |.neq,some (.interface _)=>k (.bool b)
  |_,_=>none
 |_=>none
def GI(op:BinOp)(t:TypeId)(y:Operand)(a b:V)(k:PV→Option R):Option R:=bif Bi y then Rh E op t a k else kV E op t a b k
noncomputable def agree(a b:Option R):Option R:= @ite _ (a=b) (Classical.propDecidable _) a none
noncomputable def Jw(op:BinOp)(t:TypeId)(es:List PV)(k:Bool→Option R):Option R:=
 match op,E.P.underlying t with
 |.eql,some (.slice _)=>if es.isEmpty=true then agree (k true) (k false)else k false
 |.neq,some (.slice _)=>if es.isEmpty=true then agree (k false) (k true)else k true
 |_,_=>none
def xun(op:UnOp)(a:V)(k:PV→Option R):Option R:=
 match op,a with
 |.not,.pv (.bool b)=>k (.bool !b)
 |.neg,.pv (.int q n)=>k (.int q (q.wrap (0-n)))
 |.xor,.pv (.int q n)=>k (.int q (q.wrap (BitVec.ofInt q.bits (if q.signed then-1 else q.max)^^^BitVec.ofInt q.bits n).toNat))
 |_,_=>none
def Bj(s d:TypeId)(a:V)(k:PV→Option R):Option R:=
 match E.P.underlying s,E.P.underlying d,a with
 |some (.int q),some (.int q'),.pv (.int q'' n)=>if q''=q then(if q'=q then k (.int q n)else k (.int q' (q'.wrap n)))else none
 |some .string,some .string,.pv (.str s)=>k (.str s)
 |_,_,_=>none
def qD(s:Nat)(t:TypeId)(e:PV)(off:Nat)(k:V→Option R):Option R:=
 if aF E.P t then(if off+aU E.P t≤s then k (.pv (.agg (((aK s e).drop off).take (aU E.P t))))else none)
 else match(aK s e)[off]? with
  |some p=>fN E t p fun p=>k (.pv p)
  |none=>none
def mS:V→Option PV
 |.pv p=>some p
 |_=>none
def oB(own:Bool)(t:TypeId)(a:V)(m:Mem)(k:V→bq→Option R):Option R:=
 match a with
 |.pv (.rp cs)=>
  if aF E.P t then(if aU E.P t≤cs.length then k (.pv (.agg (cs.take (aU E.P t)))) []else none)
  else(cs.head?).bind fun p=>fN E t p fun p=>k (.pv p) []
 |.op id off=>match m id with
  |some (.box cs)=>
   if aF E.P t then(if off+aU E.P t≤cs.length then k (.agg ((cs.drop off).take (aU E.P t))) [(false,id)]else none)
   else match oz mS cs with
    |some ps=>(ps[off]?).bind fun p=>fN E t p fun p=>k (.pv p) [(false,id)]
    |none=>match cs[off]? with
     |some v=>xi E t v fun v=>k v [(false,id)]
     |none=>none
  |_=>none
 |.oe id i off=>match m id with
  |some (.arr s _ es)=>(es[i]?).bind fun e=>qD E s t e off fun v=>k v [(false,id)]
  |some (.nZ s _ es)=>(es[i]?).bind fun e=>qD E s t e off fun v=>k v [(false,id)]
  |some (.nest _ _ es)=>if aF E.P t then none else(es[i]?).bind fun e=>
   if own then(match E.P.underlying t with
    |some (.slice et)=>(aO (aU E.P et) (cell e off)).bind fun _=>k (.tx id i off) [(false,id)]
    |_=>none)
   else fN E t (cell e off) fun p=>k (.pv p) [(false,id)]
  |_=>none
 |.xg id i off s j off2=>match m id with
  |some (.nest _ _ es)=>(es[i]?).bind fun e=>(aO s (cell e off)).bind fun rs=>(rs[j]?).bind fun q=>qD E s t q off2 fun v=>k v [(false,id)]
  |_=>none
 |_=>none
def over{T:Type}:List T→List T→List T
 |[],cs=>cs
 |x::new,[]=>x::over new []
 |x::new,_::cs=>x::over new cs
def bQ{T:Type}:List T→Nat→List T→List T
 |cs,0,new=>over new cs
 |[],_+1,new=>new
 |c::cs,off+1,new=>c::bQ cs off new
theorem E3{T:Type}:∀(new cs:List T),over new cs=new++cs.drop new.length
 |[],cs=>by simp[over]
 |x::new,[]=>by simp[over,E3 new []]
 |x::new,_::cs=>by simp[over,E3 new cs]
theorem dA{T:Type}:∀(cs:List T)(off:Nat)(new:List T),bQ cs off new=cs.take off++new++cs.drop (off+new.length)
 |cs,0,new=>by cases cs<;>simp[bQ,E3]
 |[],_+1,new=>by simp[bQ]
 |c::cs,off+1,new=>by rw[bQ,dA cs off new,show off+1+new.length=(off+new.length)+1 by omega];simp
def tz(draw:Bool)(m:Mem)(n:Nat)(agg:Bool)(v:V):Option (PV×Mem):=if draw then(match jd dc n agg v with|some (p,_)=>some (p,m)|none=>none)else jd m n agg v
def setRow(s:Nat)(e:PV)(off:Nat)(p:PV):PV:=if s=1 then p else .agg ((aK s e).set off p)
def setCells(s:Nat)(e:PV)(off n:Nat)(p:PV):PV:=if off=0∧n=s then p else .agg (bQ (aK s e) off p.cells)
def sn(draw:Bool)(t:TypeId)(a x:V)(m:Mem)(k:Mem→bq→Option R):Option R:=
 match a with
 |.op id off=>match m id with
  |some (.box cs)=>match toCells (aU E.P t) x with
   |some new=>if off+aU E.P t≤cs.length∧0<aU E.P t then k (au m id (.box (bQ cs off new))) [(true,id)]else none
   |none=>none
  |_=>none
 |.oe id i off=>match tz draw m (aU E.P t) (aF E.P t) x with
  |some (p,m)=>match m id with
   |some (.arr s et es)=>(es[i]?).bind fun e=>
    if off=0∧aU E.P t=s∧0<s then k (au m id (.arr s et (es.set i p))) [(true,id)]
    else if off+aU E.P t≤s∧0<aU E.P t∧1<s then k (au m id (.arr s et (es.set i (.agg (bQ (aK s e) off p.cells))))) [(true,id)]
    else none
   |some (.nest s et es)=>(es[i]?).bind fun e=>if off+aU E.P t≤s∧0<aU E.P t∧1<s then k (au m id (.nest s et (es.set i (.agg (bQ (aK s e) off p.cells))))) [(true,id)]else none
   |_=>none
  |none=>none
 |.xg id i off s j off2=>match jd dc (aU E.P t) (aF E.P t) x with
  |some (p,_)=>match m id with
   |some (.nest s0 et es)=>(es[i]?).bind fun e=>(aO s (cell e off)).bind fun rs=>(rs[j]?).bind fun q=>
    if off2+aU E.P t≤s∧0<aU E.P t∧off<s0 then k (au m id (.nest s0 et (es.set i (setRow s0 e off (.cK s (rs.set j (setCells s q off2 (aU E.P t) p))))))) [(true,id)]
    else none
   |_=>none
  |none=>none
 |_=>none
def AK(m:Mem)(x:V)(k:Nat→bq→Option R):Option R:=
 match x with
 |.pv (.rs _ es)=>k es.length []
 |.bl=>k 0 []
 |.fm id _ len=>match m id with
  |some (.arr _ _ _)=>k len [(false,id)]
  |some (.nZ _ _ _)=>k len [(false,id)]
  |_=>none
 |.os id=>match m id with
  |some (.arr _ _ es)=>k es.length [(false,id)]
  |some (.nZ _ _ es)=>k es.length [(false,id)]
  |some (.nest _ _ es)=>k es.length [(false,id)]
  |some (.box cs)=>if cs.length≤maxLen then k cs.length [(false,id)]else none
  |_=>none
 |_=>none
def OZ(sz:Nat)(m:Mem)(x:V)(k:Nat→bq→Option R):Option R:=
 match x with
 |.tx id i off=>match m id with
  |some (.nest _ _ es)=>(es[i]?).bind fun e=>(aO sz (cell e off)).bind fun rs=>k rs.length [(false,id)]
  |_=>none
 |x=>AK m x k
def O0(m:Mem)(x:V)(k:Nat→bq→Option R):Option R:=
 match x with
 |.om id=>match m id with
  |some (.map _ es)=>if es.length≤maxLen then k es.length [(false,id)]else none
  |_=>none
 |.pv .th=>k 0 []
 |_=>none
def GJ(t:TypeId)(x:V)(m:Mem)(k:V→bq→Option R):Option R:=
 match E.P.underlying t with
 |some (.array n _)=>if n≤maxLen then k (.pv (.int .i64 n)) []else none
 |some .string=>match x with
  |.pv (.str s)=>k (.pv (.int .i64 s.length)) []
  |_=>none
 |some (.slice e)=>OZ (aU E.P e) m x fun n ft=>k (.pv (.int .i64 n)) ft
 |some (.map _ _)=>O0 m x fun n ft=>k (.pv (.int .i64 n)) ft
 |_=>none
def eG(m:Mem)(sz:Nat):V→Option (List PV×bq)
 |.pv (.rs s es)=>if s=sz then some (es,[])else match es with|[]=>some ([],[])|_=>none
 |.bl=>some ([],[])
 |.os id=>match m id with
  |some (.arr s' _ es)=>if s'=sz then some (es,[(false,id)])else none
  |some (.nZ s' _ es)=>if s'=sz then some (es,[(false,id)])else none
  |_=>none
 |.fm id lo len=>match m id with
  |some (.arr s' _ es)=>if s'=sz then some ((es.drop lo).take len,[(false,id)])else none
  |some (.nZ s' _ es)=>if s'=sz then some ((es.drop lo).take len,[(false,id)])else none
  |_=>none
 |.tx id i off=>match m id with
  |some (.nest _ _ es)=>(es[i]?).bind fun e=>(aO sz (cell e off)).bind fun rs=>some (rs,[(false,id)])
  |_=>none
 |_=>none
def E4(m:Mem)(sz:Nat)(x:V)(k:List PV→bq→Option R):Option R:=
 match x with
 |.tx id i off=>match m id with
  |some (.nest _ _ es)=>(es[i]?).bind fun e=>(aO sz (cell e off)).bind fun rs=>k rs [(false,id)]
  |_=>none
 |x=>match eG m sz x with
  |some (es,ft)=>k es ft
  |none=>none
def yF:List PV→Option Bytes
 |[]=>some []
 |.int .u8 n::r=>(yF r).map fun b=>UInt8.ofNat n.toNat::b
 |_=>none
def yG(s d:TypeId)(a:V)(m:Mem)(k:PV→bq→Option R):Option R:=
 match E.P.underlying s,E.P.underlying d with
 |some (.slice e),some .string=>match E.P.underlying e,eG m 1 a with
  |some (.int .u8),some (es,ft)=>(yF es).bind fun b=>k (.str b) ft
  |_,_=>none
 |_,_=>Bj E s d a fun p=>k p []
def ae(i:Int)(n:Nat):Prop:=0≤i∧i<(n:Int)
instance (i:Int) (n:Nat):Decidable (ae i n):=inferInstanceAs (Decidable (_∧_))
def dw(t:TypeId)(x ix:V)(m:Mem)(k:V→bq→Option R):Option R:=
 match ix with
 |.pv (.int _ i)=>match E.P.underlying t,x with
  |some (.slice e),.pv (.rs s es)=>if s=aU E.P e∧0<s then(aR es i).bind fun p=>k (.pv (.rp (aK s p))) []else none
  |some (.slice e),.os id=>match m id with
   |some (.arr s _ es)=>if s=aU E.P e∧0<s then(if ae i es.length then k (.oe id i.toNat 0) [(false,id)]else none)else none
   |some (.nZ s _ es)=>if s=aU E.P e∧0<s then(if ae i es.length then k (.oe id i.toNat 0) [(false,id)]else none)else none
   |some (.nest s _ es)=>if s=aU E.P e∧0<s then(if ae i es.length then k (.oe id i.toNat 0) [(false,id)]else none)else none
   |some (.box cs)=>if aU E.P e=1∧ae i cs.length then k (.op id i.toNat) [(false,id)]else none
   |_=>none
  |some (.slice e),.tx id i0 off=>match m id with
   |some (.nest _ _ es)=>if 0<aU E.P e then(es[i0]?).bind fun e0=>(aO (aU E.P e) (cell e0 off)).bind fun rs=>if ae i rs.length then k (.xg id i0 off (aU E.P e) i.toNat 0) [(false,id)]else none else none
   |_=>none
  |some (.slice e),.fm id lo len=>match m id with
   |some (.arr s _ _)=>if s=aU E.P e∧0<s then(if ae i len then k (.oe id (lo+i.toNat) 0) [(false,id)]else none)else none
   |some (.nZ s _ _)=>if s=aU E.P e∧0<s then(if ae i len then k (.oe id (lo+i.toNat) 0) [(false,id)]else none)else none
   |_=>none
  |some (.array n e),.op id off=>if ae i n∧0<aU E.P e then k (.op id (off+i.toNat*aU E.P e)) []else none
  |some (.array n e),.pv (.rp cs)=>if ae i n∧0<aU E.P e then k (.pv (.rp (cs.drop (i.toNat*aU E.P e)))) []else none
  |some (.array n e),.oe id j off=>if ae i n∧0<aU E.P e then k (.oe id j (off+i.toNat*aU E.P e)) []else none
  |_,_=>none
 |_=>none
def xj(s:TypeId)(j:Nat):Option (Nat×TypeId):=
 match E.P.underlying s with
 |some (.struct fs)=>match fs[j]? with
  |some f=>if aU E.P f.type=0 then none else some (f.offset,f.type)
  |none=>none
 |_=>none
def iO(s:TypeId)(x:V)(j:Nat)(k:V→Option R):Option R:=
 match xj E s j with
 |some (o,_)=>match x with
  |.pv (.rp cs)=>k (.pv (.rp (cs.drop o)))
  |.op id off=>k (.op id (off+o))
  |.oe id i off=>k (.oe id i (off+o))
  |.xg id i off s j off2=>k (.xg id i off s j (off2+o))
  |_=>none
 |none=>none
def Bk(t:TypeId)(cs:List V)(off:Nat)(k:V→Option R):Option R:=
 if aF E.P t then(if off+aU E.P t≤cs.length then k (.agg ((cs.drop off).take (aU E.P t)))else none)
 else match cs[off]? with
  |some v=>xi E t v k
  |none=>none
def Bl(s:TypeId)(x:V)(j:Nat)(k:V→Option R):Option R:=
 match xj E s j,oA x with
 |some (o,t),some cs=>Bk E t cs o k
 |_,_=>none
def yH(t:TypeId)(x ix:V)(k:V→Option R):Option R:=
 match ix with
 |.pv (.int _ i)=>match E.P.underlying t,x with
  |some .string,.pv (.str s)=>(Jv s i).bind fun b=>k (.pv (.int .u8 b.toNat))
  |some (.array n et),x=>match oA x with
   |some cs=>if ae i n∧0<aU E.P et then Bk E et cs (i.toNat*aU E.P et) k else none
   |none=>none
  |_,_=>none
 |_=>none
def iC(d:Int):Option V→Option Int
 |none=>some d
 |some (.pv (.int _ i))=>some i
 |_=>none
def so(t:TypeId)(x:V)(lo hi mx:Option V)(m:Mem)(k:V→bq→Option R):Option R:=
 match mx with
 |some mx=>match E.P.underlying t,x with
  |some (.slice e),.os id=>match m id with
   |some (.arr s _ es)=>match lo,hi,mx with
    |none,some (.pv (.int _ h)),.pv (.int _ c)=>if 0≤h∧h≤c∧c≤(es.length:Int)∧s=aU E.P e then k (.fm id 0 h.toNat) [(false,id)]else none
    |_,_,_=>none
   |_=>none
  |_,_=>none
 |none=>match E.P.underlying t,x with
  |some .string,.pv (.str s)=>match iC 0 lo,iC s.length hi with
   |some l,some h=>if 0≤l∧l≤h∧h≤(s.length:Int)then k (.pv (.str ((s.take h.toNat).drop l.toNat))) []else none
   |_,_=>none
  |some (.slice e),.pv (.rs sz es)=>match iC 0 lo,iC es.length hi with
   |some l,some h=>if 0≤l∧l≤h∧h≤(es.length:Int)∧sz=aU E.P e∧aU E.P e≠0 then k (.pv (.rs sz ((es.take h.toNat).drop l.toNat))) []else none
   |_,_=>none
  |some (.slice e),.os id=>match m id with
   |some (.arr s _ es)=>match iC 0 lo,iC es.length hi with
    |some l,some h=>if 0≤l∧l≤h∧h≤(es.length:Int)∧s=aU E.P e then k (.fm id l.toNat (h.toNat-l.toNat)) [(false,id)]else none
    |_,_=>none
   |some (.nZ s _ es)=>match iC 0 lo,iC es.length hi with
    |some l,some h=>if 0≤l∧l≤h∧h≤(es.length:Int)∧s=aU E.P e then k (.fm id l.toNat (h.toNat-l.toNat)) [(false,id)]else none
    |_,_=>none
   |_=>none
  |_,_=>none
def placesOf(fs:List Field)(j:Nat):Option (Nat×Nat):=(fs[j]?).map fun f=>(f.offset,aU E.P f.type)
def DK(place:Nat→Option (Nat×Nat))(cs:List V):List (Nat×V)→Option (List V)
 |[]=>some cs
 |(i,v)::rest=>match place i with
  |some (off,size)=>match toCells size v with
   |some new=>if off+size≤cs.length then DK place (bQ cs off new) rest else none
   |none=>none
  |none=>none
def dg(t:TypeId):Option (List V):=match zeroV E.P t with|some v=>toCells (aU E.P t) v|none=>none
def yI(t:TypeId)(parts:List (Nat×V))(k:V→Option R):Option R:=
 match dg E t,E.P.underlying t with
 |some z,some (.struct fs)=>if fs.toList.all (fun f=>(E.P.info? f.type).isSome)then match DK (placesOf E fs.toList) z parts with
  |some cs=>k (.agg cs)
  |none=>none
  else none
 |some z,some (.array _ e)=>if 0<aU E.P e then match DK (fun i=>some (i*aU E.P e,aU E.P e)) z parts with
  |some cs=>k (.agg cs)
  |none=>none
  else none
 |_,_=>none
def ev(m:Mem)(n:Nat)(agg:Bool):Nat→List (Nat×V)→Option (List PV×Mem)
 |_,[]=>some ([],m)
 |i,(j,v)::r=>if i=j then match jd m n agg v with
  |some (p,m)=>match ev m n agg (i+1) r with
   |some (ps,m)=>some (p::ps,m)
   |none=>none
  |none=>none
  else none
def Bm:Nat→List (Nat×V)→Option (List V)
 |_,[]=>some []
 |i,(j,v)::r=>if i=j then match toCells 1 v with
  |some cs=>match Bm (i+1) r with
   |some us=>some (cs++us)
   |none=>none
  |none=>none
  else none
def Nu(t:TypeId):Bool:=match E.P.underlying t with|some (.func _ _ _)=>true|_=>false
def yJ(t:TypeId):Option PV:=match zeroV E.P t with
 |some v=>match jt dc 2 v with
  |some p=>if aF E.P t=p.isAgg∧p.cells.length=aU E.P t∧p.plain=true then some p else none
  |none=>none
 |none=>none
def keyOf(kt:TypeId)(v:V):Option PV:=
 match qm E.P kt with
 |some ks=>
  if aF E.P kt then(match oA v with
   |some cs=>match oz (jt dc 1) cs with
    |some ps=>if gX ks ps then some (.agg ps)else none
    |none=>none
   |none=>none)
  else match v with
   |.pv p=>if gX ks [p]then some p else none
   |_=>none
 |none=>none
def GK(site:Nat)(t:TypeId)(x ix:V)(m:Mem)(k:V→Mem→bq→Option R):Option R:=
 match E.P.underlying t with
 |some (.map kt et)=>match E.P.underlying et with
  |some (.slice e)=>match x,zeroV E.P et with
   |.om id,some .bl=>match m id,m site with
    |some (.e8 tn e' es),none=>if tn=kt∧e'=e∧0<aU E.P e then(keyOf E kt ix).bind fun key=>(GG (aU E.P e) key es).bind fun rs=>k (.os site) (au (au m id (.e8 kt e (qk key es))) site (.arr (aU E.P e) e rs)) [(true,id),(true,site)]else none
    |_,_=>none
   |_,_=>none
  |_=>none
 |_=>none
def sq(t:TypeId)(x ix:V)(ok:Bool)(m:Mem)(k:V→bq→Option R):Option R:=
 match E.P.underlying t with
 |some (.map kt et)=>match yJ E et with
  |some z=>match x with
   |.om id=>match m id with
    |some (.map tn es)=>if tn=kt then(keyOf E kt ix).bind fun key=>fN E et (dH key z es) fun v=>k (if ok then .aZ [.pv v,.pv (.bool (ti key es))]else .pv v) [(false,id)]else none
    |_=>none
   |.pv p=>dO kt p ((keyOf E kt ix).bind fun _=>k (if ok then .aZ [.pv z,.pv (.bool false)]else .pv z) []) fun ks vs=>(keyOf E kt ix).bind fun key=>fN E et (dH key z (ks.zip vs)) fun v=>k (if ok then .aZ [.pv v,.pv (.bool (ti key (ks.zip vs)))]else .pv v) []
   |_=>none
  |none=>none
 |_=>none
def xl(draw:Bool)(m:Mem)(v:V):Option (PV×Mem):=if draw then(match sl dc v with|some (p,_)=>some (p,m)|none=>none)else sl m v
def mn(draw:Bool)(t:TypeId)(x key val:V)(m:Mem)(k:Mem→bq→Option R):Option R:=
 match E.P.underlying t with
 |some (.map kt _)=>match x with
  |.om id=>match xl draw m val with
   |some (v,m)=>match m id with
    |some (.map tn es)=>if tn=kt then(keyOf E kt key).bind fun key=>k (au m id (.map kt (eM key v es))) [(true,id)]else none
    |_=>none
   |none=>none
  |_=>none
 |_=>none
def aa:Nat:=140737488355328
def jF(m:Mem):Nat→List V→Option (List PV×Option (Nat×Nat))
 |_,[]=>some ([],none)
 |j,.os id::r=>match m id with
  |some (.arr s _ es)=>match jF m (j+1) r with
   |some (ps,none)=>some (.cK s es::ps,some (j,id))
   |_=>none
  |_=>none
 |j,v::r=>match jt dc 1 v with
  |some p=>match jF m (j+1) r with
   |some (ps,t)=>some (p::ps,t)
   |none=>none
  |none=>none
def elemOf(agg:Bool)(ps:List PV):Option PV:=if agg then some (.agg ps)else match ps with|[p]=>some p|_=>none
inductive Sp where
 |st (id i off s:Nat) (et:TypeId) (es ps:List PV) (id2:Nat)
 |app (id s:Nat) (et:TypeId) (es new:List PV) (src:Option Nat) (rd:bq)
 |lit (s:Nat) (et:TypeId) (p:PV) (id2:Nat)
 |upd (id:Nat) (kt e:TypeId) (es:List (PV×PV)) (key:PV) (s:Nat) (rs:List PV) (id2:Nat)
def wo(site:Nat)(o:Oper)(f:Fr)(m:Mem):Option Sp:=
 match o.op with
 |.store t a x=>match bA E f a with
  |.oe id i off=>match m id with
   |some (.nest s et es)=>match toCells (aU E.P t) (bA E f x)with
    |some cs=>match jF m 0 cs with
     |some (ps,some (_,id2))=>if off+aU E.P t≤s&&0<aU E.P t&& !(Nat.beq id2 id)then some (.st id i off s et es ps id2)else none
     |_=>none
    |none=>none
   |_=>none
  |_=>none
 |.buildSlice t len parts=>match E.P.underlying t,parts.toList.map fun(i,x)=>(i,bA E f x)with
  |some (.slice e),[(0,v)]=>match toCells (aU E.P e) v with
   |some cs=>match jF m 0 cs,m site with
    |some (ps,some (_,id2)),none=>match elemOf (aF E.P e) ps with
     |some p=>if Nat.beq len 1&&0<aU E.P e&&aU E.P e≤16777216&&(dg E e).isSome then some (.lit (aU E.P e) e p id2)else none
     |none=>none
    |_,_=>none
   |none=>none
  |_,_=>none
 |.call c=>match c.callee,c.args.toList.map (bA E f),c.argTypes.toList with
  |.builtin .append,[.os id,x],[t,t']=>match E.P.underlying t,m id with
   |some (.slice e),some (.nest s et es)=>if et=e&&s=aU E.P e&&decide (t'=t)&&(dg E e).isSome&&0<aU E.P e&&0<Dm E.P e then(match x with
    |.os nN=>match m nN with
     |some (.nest s' Bn new)=>if Nat.beq s' s&&decide (Bn=et)&& !(Nat.beq nN id)then some (.app id s et es new (some nN) [])else none
     |_=>match eG m s x with
      |some (new,rd)=>if x.has id then none else some (.app id s et es new none rd)
      |none=>none
    |_=>match eG m s x with
     |some (new,rd)=>if x.has id then none else some (.app id s et es new none rd)
     |none=>none)else none
   |_,_=>none
  |_,_,_=>none
 |.mapUpdate t x key v=>match E.P.underlying t,bA E f x,bA E f v with
  |some (.map kt _),.om id,.os id2=>match m id,m id2,keyOf E kt (bA E f key)with
   |some (.e8 tn e es),some (.arr s e' rs),some key=>if decide (tn=kt)&&decide (e'=e)&&Nat.beq s (aU E.P e)then some (.upd id kt e es key s rs id2)else none
   |_,_,_=>none
  |_,_,_=>none
 |_=>none
def Sp.info(site:Nat):Sp→Kl×bq
 |.st id _ _ _ _ _ _ id2=>([(true,id2),(false,id)],[(true,id),(true,id2)])
 |.app id _ _ _ _ (some id2) _=>([(true,id2),(true,id)],[(true,id),(true,id2)])
 |.app id _ _ _ _ none rd=>([(true,id)],(true,id)::rd)
 |.lit _ _ _ id2=>([(true,id2)],[(true,site),(true,id2)])
 |.upd id _ _ _ _ _ _ id2=>([(true,id2),(false,id)],[(true,id),(true,id2)])
def WL(site:Nat)(sp:Sp)(f:Fr)(m:Mem)(k:V→Fr→Mem→bq→Option R):Option R:=
 match sp with
 |.st id i off s et es ps id2=>(es[i]?).bind fun e=>k .top (kf [(true,id2),(false,id)] f) (rr [(id,.nest s et (es.set i (if s=1 then ps.headD .bad else .agg (bQ (aK s e) off ps))))] (km [(true,id2),(false,id)] m)) [(true,id),(true,id2)]
 |.app id s et es new src rd=>if(es++new).length*Dm E.P et≤aa then k (.os id) (kf (Sp.app id s et es new src rd|>.info site).1 f) (rr [(id,.nest s et (es++new))] (km (Sp.app id s et es new src rd|>.info site).1 m)) (Sp.app id s et es new src rd|>.info site).2 else none
 |.lit s et p id2=>k (.os site) (kf [(true,id2)] f) (rr [(site,.nest s et [p])] (km [(true,id2)] m)) [(true,site),(true,id2)]
 |.upd id kt e es key s rs id2=>k .top (kf [(true,id2),(false,id)] f) (rr [(id,.e8 kt e (eM key (.cK s rs) es))] (km [(true,id2),(false,id)] m)) [(true,id),(true,id2)]
def xm(draw:Bool)(site:Nat)(t t':TypeId)(s x:V)(f:Fr)(m:Mem)(k:V→Fr→Mem→Option R):Option R:=
 if draw|| !(decide (t'=t))then none else
 match E.P.underlying t with
 |some (.slice e)=>if(dg E e).isNone then none else match eG m (aU E.P e) x with
  |some (new,_)=>match s with
   |.bl=>if new.length*Dm E.P e≤aa∧0<Dm E.P e∧0<aU E.P e then fresh draw site (.arr (aU E.P e) e new) f m (fun f m _=>k (.os site) f m)else none
   |.os id=>match m id with
    |some (.arr sz et es)=>if et=e∧sz=aU E.P e∧x.has id=false then(if(es++new).length*Dm E.P e≤aa∧0<Dm E.P e then fresh draw id (.arr sz e (es++new)) (eP id f) (bh (bB id m) id) (fun f m _=>k (.os id) f m)else none)else none
    |_=>none
   |_=>none
  |none=>none
 |_=>none
def GL(t:TypeId)(d x:V)(m:Mem)(k:V→Mem→bq→Option R):Option R:=
 match E.P.underlying t with
 |some (.slice e)=>match d with
  |.os id=>match m id with
   |some (.arr sz et es)=>if sz=aU E.P e∧x.has id=false then E4 m sz x fun new ft=>k (.pv (.int .i64 (min new.length es.length:Nat))) (au m id (.arr sz et (new.take es.length++es.drop new.length))) ((true,id)::ft)else none
   |_=>none
  |_=>none
 |_=>none
def Bo(t:TypeId)(x:V)(m:Mem)(k:V→Mem→bq→Option R):Option R:=
 match E.P.underlying t with
 |some (.slice e)=>match x,yJ E e with
  |.fm id lo len,some z=>match m id with
   |some (.arr sz et es)=>if sz=aU E.P e∧et=e∧lo+len≤es.length∧0<aU E.P e then k .top (au m id (.arr sz et (es.take lo++(List.replicate len z++es.drop (lo+len))))) [(true,id)]else none
   |_=>none
  |_,_=>none
 |_=>none
def oC(draw:Bool)(site:Nat)(t:TypeId)(len cap:V)(f:Fr)(m:Mem)(k:V→Fr→Mem→bq→Option R):Option R:=
 match E.P.underlying t,len,cap with
 |some (.slice e),.pv (.int _ n),.pv (.int _ c)=>match yJ E e with
  |some z=>if 0≤n∧n≤c∧c.toNat*Dm E.P e≤aa∧0<Dm E.P e∧0<aU E.P e then fresh draw site (.arr (aU E.P e) e (List.replicate n.toNat z)) f m (fun f m ft=>k (.os site) f m ft)else none
  |none=>none
 |_,_,_=>none
def GM(a b:V)(k:PV→Option R):Option R:=match a,b with
 |.pv (.int q x),.pv (.int q' y)=>if q=q' then k (.int q (if y<x then y else x))else none
 |_,_=>none
def zI(a b:V)(k:PV→Option R):Option R:=match a,b with
 |.pv (.int q x),.pv (.int q' y)=>if q=q' then k (.int q (if y>x then y else x))else none
 |_,_=>none
def GN(a b c d:V)(k:PV→Option R):Option R:=zI a b fun p=>zI (.pv p) c fun p=>zI (.pv p) d k
def vc(t:TypeId):Bool:=match E.P.underlying t with|some (.int _)|some .bool|some .string=>true|_=>false
def gE(m:Mem):List V→Option (List PV×Mem)
 |[]=>some ([],m)
 |v::r=>match sl m v with
  |some (p,m)=>match gE m r with
   |some (ps,m)=>some (p::ps,m)
   |none=>none
  |none=>none
def DL:PV→PV
 |.int q n=>.int q n
 |.bool b=>.bool b
 |.str s=>.str s
 |_=>.bad
def s5(draw:Bool)(site:Nat)(fid:FuncId)(args:List V)(f:Fr)(m:Mem)(k:V→Fr→Mem→bq→Option R):Option R:=
 match E.ctx fid with
 |some M=>match E.P.funcs[fid]? with
  |some fn=>
   if fn.resultTypes.toList.all (vc E)then(match oz (jt m eF) args with
     |some ps=>(M ps).bind fun r=>zH E fn.resultTypes.toList r fun v=>k v f m ((gD (cY m eF) args).map fun i=>(false,i))
     |none=>none)
   else(match gE (if draw then dc else m) args with
     |some (ps,m')=>(M ps).bind fun r=>yE E fid fn.resultTypes.toList r fun v=>k v f (if draw then m else m') (if draw then[]else[(true,0)])
     |none=>none)
  |none=>none
 |none=>match E.own fid with
  |some M=>match E.P.funcs[fid]? with
   |some fn=>match fn.resultTypes.toList with
    |[t]=>match E.P.underlying t with
     |some (.slice e)=>if vc E e=true∧aU E.P e=1 then(match oz (jt m eF) args with
      |some ps=>(M ps).bind fun r=>(ab (aU E.P e) r).bind fun es=>fresh draw site (.arr (aU E.P e) e (es.map DL)) f m fun f m1 ft=>k (.os site) f m1 (ft++(gD (cY m eF) args).map fun i=>(false,i))
      |none=>none)
      else match gE (if draw then dc else m) args with
      |some (ps,m')=>(M ps).bind fun r=>(ab (aU E.P e) r).bind fun es=>fresh draw site (.arr (aU E.P e) e es) f (if draw then m else m') fun f m ft=>k (.os site) f m ft
      |none=>none
     |_=>none
    |_=>none
   |none=>none
  |none=>if draw then none else E.inl R fid (site*4096+fid) args f m fun v f m=>k v f m [(true,0)]
def Ri(f:TypeId→Option (List TypeId)):List Field→Option (List TypeId)
 |[]=>some []
 |x::r=>(f x.type).bind fun a=>(Ri f r).bind fun b=>some (a++b)
def Rj(l:List TypeId):Nat→List TypeId
 |0=>[]
 |n+1=>l++Rj l n
def Bp(P:Program):Nat→TypeId→Option (List TypeId)
 |0,_=>none
 |d+1,t=>match P.underlying t with
  |some (.struct fs)=>Ri (Bp P d) fs.toList
  |some (.array n e)=>(Bp P d e).bind fun l=>some (Rj l n)
  |some _=>some [t]
  |none=>none
def s8(n:Nat)(args:List V)(f:Fr):Fr:=fun t=>bif Nat.blt t n then args.getD t .top else f (t-n)
def tA(n:Nat)(f:Fr):Fr:=fun t=>f (t+n)
def Rk:V→Bool
 |.bl=>true
 |_=>false
def rA(site j:Nat):Nat:=site+(j+1)*1606938044258990275541962092341162602522202993782792835301376
def vd(E:Env){R:Type}(site:Nat):List TypeId→Nat→Fr→Mem→(Fr→Mem→Option R)→Option R
 |[],_,F,m,k=>k F m
 |t::ts,j,F,m,k=>match F j with
  |.bl=>match E.P.underlying t with
   |some (.slice e)=>if 0<aU E.P e then fresh false (rA site j) (.arr (aU E.P e) e []) F m fun F m _=>vd E site ts (j+1) (fo F j (.os (rA site j))) m k else none
   |_=>none
  |_=>vd E site ts (j+1) F m k
def aal(E:Env)(t:TypeId):Bool:=match E.P.underlying t with|some (.slice _)=>true|_=>false
def E5(f:Fr):Option Operand→Bool
 |none=>true
 |some x=>match bA E f x with|.pv (.int _ _)=>true|_=>false
noncomputable def qo(n:Nat)(g:Nat→Option R):Option R:= @dite _ (∃r,∀i,i<n→g i=some r) (Classical.propDecidable _) (fun h=>some (Classical.choose h)) fun _=>none
def Jx(site:Nat)(t:TypeId)(x:V)(f:Fr)(m:Mem)(k:V→Fr→Mem→Option R):Option R:=
 match E.P.underlying t with
 |some (.map kt _)=>match x with
  |.om id=>match m id with
   |some (.map tn es)=>if tn=kt then fresh false site (.iter t es none) (eP id f) (bh (bB id m) id) fun f m _=>k (.it site) f m else none
   |_=>none
  |_=>none
 |_=>none
noncomputable def Rl(x:V)(f:Fr)(m:Mem)(k:V→Fr→Mem→Option R):Option R:=
 match x with
 |.it id=>match m id with
  |some (.iter t es _)=>match E.P.underlying t with
   |some (.map kt et)=>if es.isEmpty=true then k (.aZ [.pv (.bool false)]) f m else qo es.length fun i=>(es[i]?).bind fun e=>fN E kt e.1 fun a=>fN E et e.2 fun b=>k (.aZ [.pv (.bool true),.pv a,.pv b]) f (au m id (.iter t (es.eraseIdx i) (some (a,b))))
   |_=>none
  |_=>none
 |_=>none
def Jy(x:V)(m:Mem)(k:V→Mem→Option R):Option R:=
 match x with
 |.it id=>match m id with
  |some (.iter t es (some (a,b)))=>k (.aZ [.pv a,.pv b]) (au m id (.iter t es none))
  |_=>none
 |_=>none
def Jz:Op→Bool
 |.range .. =>true
 |.next .. =>true
 |.entry .. =>true
 |_=>false
noncomputable def cW(draw:Bool)(site:Nat)(o:Oper)(f:Fr)(m:Mem)(k:V→Fr→Mem→bq→Option R):Option R:=
 match o.op with
 |.move x=>k (bA E f x) f m []
 |.assign x=>match bA E f x with
  |.bl=>match E.P.underlying o.type with
   |some (.slice e)=>if 0<aU E.P e then fresh draw site (.arr (aU E.P e) e []) f m fun f m ft=>k (.os site) f m ft else none
   |_=>k .bl f m []
  |v=>k v f m []
 |.pick c a b=>match bA E f c with
  |.pv (.bool t)=>if t then k (bA E f a) f m []else k (bA E f b) f m []
  |_=>none
 |.alloc t=>match dg E t with
  |some cs=>if !draw&&aal E t then vd E site [t] 0 (s8 cs.length cs f) m fun F m=>fresh false site (.box ((List.range cs.length).map F)) (tA cs.length F) m fun f m ft=>k (.op site 0) f m ft else fresh draw site (.box cs) f m fun f m ft=>k (.op site 0) f m ft
  |none=>none
 |.box t x=>match toCells (aU E.P t) (bA E f x)with
  |some cs=>if !draw&&cs.any Rk then(match Bp E.P 8 t with
   |some ts=>if ts.length=cs.length then vd E site ts 0 (s8 cs.length cs f) m fun F m=>fresh false site (.box ((List.range cs.length).map F)) (tA cs.length F) m fun f m ft=>k (.op site 0) f m ft else none
   |none=>none)else fresh draw site (.box cs) f m fun f m ft=>k (.op site 0) f m ft
  |none=>none
 |.build t parts=>yI E t (parts.toList.map fun(i,x)=>(i,bA E f x)) fun v=>k v f m []
 |.buildSlice t len parts=>match E.P.underlying t with
  |some (.slice e)=>if Nu E e then(match Bm 0 (parts.toList.map fun(i,x)=>(i,bA E f x))with
   |some cs=>if parts.size=len∧aU E.P e=1∧len≤16777216∧(dg E e).isSome=true then fresh draw site (.box cs) f m fun f m ft=>k (.os site) f m ft else none
   |none=>none)
   else if E.zF (site+1000000000000000000000000000000)then(match ev dc (aU E.P e) (aF E.P e) 0 (parts.toList.map fun(i,x)=>(i,bA E f x))with
   |some (es,_)=>if es.length=len∧0<aU E.P e∧len*aU E.P e≤16777216∧(dg E e).isSome=true then k (.pv (.rs (aU E.P e) es)) f m []else none
   |none=>none)
   else match ev (if draw then dc else m) (aU E.P e) (aF E.P e) 0 (parts.toList.map fun(i,x)=>(i,bA E f x))with
   |some (es,m1)=>if es.length=len∧0<aU E.P e∧len*aU E.P e≤16777216∧(dg E e).isSome=true then fresh draw site (.arr (aU E.P e) e es) f (if draw then m else m1) fun f m ft=>k (.os site) f m ft else none
   |none=>none
  |_=>none
 |.load t a=>oB E (E.zF site) t (bA E f a) m fun v ft=>k v f m ft
 |.store t a x=>sn E draw t (bA E f a) (bA E f x) m fun m ft=>k .top f m ft
 |.nilCheck x=>match bA E f x with
  |.pv (.rp cs)=>k (.pv (.rp cs)) f m []
  |.op id off=>k (.op id off) f m []
  |.oe id i off=>k (.oe id i off) f m []
  |.xg id i off s j off2=>k (.xg id i off s j off2) f m []
  |.fn g cs=>k (.fn g cs) f m []
  |.pv (.fn g cs)=>k (.pv (.fn g cs)) f m []
  |_=>none
 |.binOp op t x y _=>match bA E f x,bA E f y with
  |.pv (.rs _ es),.bl=>if draw then none else Jw E op t es fun b=>k (.pv (.bool b)) f m [(true,0)]
  |a,b=>GI E op t y a b fun p=>k (.pv p) f m []
 |.unOp op _ x=>xun op (bA E f x) fun p=>k (.pv p) f m []
 |.convert s d x=>yG E s d (bA E f x) m fun p ft=>k (.pv p) f m ft
 |.makeFunc (.func g) first mi=>if first.isEmpty then k (.fn g (mi.toList.map (bA E f))) f m []else none
 |.makeMap t hint=>if E5 E f hint=true then match E.P.underlying t with
  |some (.map kt et)=>if(qm E.P kt).isSome then(if E.zF site then(match E.P.underlying et with
   |some (.slice e)=>fresh draw site (.e8 kt e []) f m fun f m ft=>k (.om site) f m ft
   |_=>none)
   else fresh draw site (.map kt []) f m fun f m ft=>k (.om site) f m ft)else none
  |_=>none
  else none
 |.makeSlice t l c=>oC E draw site t (bA E f l) (bA E f c) f m k
 |.slice t x lo hi mx=>so E t (bA E f x) (lo.map (bA E f)) (hi.map (bA E f)) (mx.map (bA E f)) m fun v ft=>k v f m ft
 |.fieldAddr s x j=>iO E s (bA E f x) j fun v=>k v f m []
 |.field s x j=>Bl E s (bA E f x) j fun v=>k v f m []
 |.indexAddr t x ix=>dw E t (bA E f x) (bA E f ix) m fun v ft=>k v f m ft
 |.index t x ix=>yH E t (bA E f x) (bA E f ix) fun v=>k v f m []
 |.lookup t x ix ok=>if E.zF site&& !ok then GK E site t (bA E f x) (bA E f ix) m fun v m ft=>k v f m ft else sq E t (bA E f x) (bA E f ix) ok m fun v ft=>k v f m ft
 |.mapUpdate t x key v=>mn E draw t (bA E f x) (bA E f key) (bA E f v) m fun m ft=>k .top f m ft
 |.insert t x key v=>mn E draw t (bA E f x) (bA E f key) (bA E f v) m fun m ft=>k .top f m ft
 |.range t x=>if draw then none else Jx E site t (bA E f x) f m fun v f m=>k v f m [(true,0)]
 |.next x s=>if draw||s then none else Rl E (bA E f x) f m fun v f m=>k v f m [(true,0)]
 |.entry x=>if draw then none else Jy (bA E f x) m fun v m=>k v f m [(true,0)]
 |.extract t i=>match bA E f t with
  |.aZ vs=>match vs[i]? with
   |some v=>k v f m []
   |none=>none
  |_=>none
 |.call c=>match c.callee,c.args.toList.map (bA E f)with
  |.builtin .len,[x]=>match c.argTypes.toList with
   |[t]=>GJ E t x m fun v ft=>k v f m ft
   |_=>none
  |.builtin .append,[s,x]=>match c.argTypes.toList with
   |[t,t']=>xm E draw site t t' s x f m fun v f m=>k v f m [(true,0)]
   |_=>none
  |.builtin .copy,[d,x]=>match c.argTypes.toList with
   |t::_=>GL E t d x m fun v m ft=>k v f m ft
   |_=>none
  |.builtin .clear,[x]=>match c.argTypes.toList with
   |t::_=>Bo E t x m fun v m ft=>k v f m ft
   |_=>none
  |.builtin .min,[a,b]=>GM a b fun p=>k (.pv p) f m []
  |.builtin .max,[a,b]=>zI a b fun p=>k (.pv p) f m []
  |.builtin .max,[a,b,c,d]=>GN a b c d fun p=>k (.pv p) f m []
  |.value (.func g),args=>s5 E draw site g args f m k
  |.value (.tmp t),args=>match bA E f (.tmp t)with
   |.fn g mi=>s5 E draw site g (args++mi) f m k
   |.pv (.fn g mi)=>s5 E draw site g (args++mi.map .pv) f m k
   |.yl id=>if draw then none else E.yl R E.fn.ntmps site id args f m fun v f m=>k v f m [(true,0)]
   |_=>none
  |_,_=>none
 |_=>none
noncomputable def GO(draw:Bool)(site:Nat)(o:Oper)(f:Fr)(m:Mem)(k:V→Fr→Mem→bq→Option R):Option R:=
 match(bif draw then none else bif E.zF site then wo E site o f m else none)with
 |some sp=>WL E site sp f m k
 |none=>cW E draw site o f m k
def e9(o:Oper):Bool:=
 match o.op with
 |.move _|.assign _|.pick .. |.load .. |.nilCheck _|.binOp .. |.unOp .. |.convert .. |.slice .. |.fieldAddr .. |.field .. |.indexAddr .. |.index .. |.lookup .. |.extract .. |.build .. =>true
 |.call {callee:=.builtin .len,.. }|.call {callee:=.builtin .min,.. }|.call {callee:=.builtin .max,.. }=>true
 |.call {callee:=.value _,.. }=>true
 |_=>false
def xn:bq→Bool
 |[]=>true
 |(w,_)::r=> !w&&xn r
abbrev Log:=List (Nat×Bool×Nat)
def Bq(o:Oper)(j:Nat):Bool:=o.after.toList.any fun e=>Region.binds .any e&&Nat.beq e.on j
mutual
def V.ids:V→List Nat
 |.agg cs=>GP cs
 |.aZ cs=>GP cs
 |.fn _ cs=>GP cs
 |.os j=>[j]
 |.fm j _ _=>[j]
 |.oe j _ _=>[j]
 |.om j=>[j]
 |.tx j _ _=>[j]
 |.xg j _ _ _ _ _=>[j]
 |.op j _=>[j]
 |.yl j=>[j]
 |.it j=>[j]
 |_=>[]
def GP:List V→List Nat
 |[]=>[]
 |v::r=>v.ids++GP r
end
def Br:Option bL→List Nat
 |some (.box cs)=>GP cs
 |_=>[]
def ve(n:Nat):Nat:=n+2037035976334486086268445688409378161051468393665936250636140449354381299763336706183397376
def E6(m m':Mem):bq→List Nat
 |[]=>[]
 |x::r=>Br (m x.2)++Br (m' x.2)++E6 m m' r
def A0(ops:Array Oper)(o:Oper)(f:Fr)(m m':Mem)(v:V)(ft:bq):List Nat:=GP ((o.looksAt ops).map f)++v.ids++E6 m m' ft
def cD(E:Env)(d:Option Nat):Nat:=match d with|some d=>E.fid*4096+d|none=>E.fid*4096+4095
def isApp(E:Env)(o:Oper):Bool:=E.zF (cD E o.dst)||match o.op with|.call {callee:=.builtin .append,.. }=>true|_=>false
def sr(E:Env)(f:Fr)(m:Mem)(o:Oper):Option (Nat×bq):=
 match o.op with
 |.call c=>match c.callee,c.args.toList.map (bA E f),c.argTypes.toList with
  |.builtin .append,[.os id,x],[t,_]=>match E.P.underlying t with
   |some (.slice e)=>match eG m (aU E.P e) x with
    |some (_,rd)=>if x.has id then none else some (id,rd)
    |none=>none
   |_=>none
  |_,_,_=>none
 |_=>none
def E7(E:Env)(f:Fr)(m:Mem)(o:Oper):Option (Kl×bq):=
 match(bif E.zF (cD E o.dst)then wo E (cD E o.dst) o f m else none)with
 |some sp=>some (sp.info (cD E o.dst))
 |none=>match sr E f m o with
  |some (id,rd)=>some ([(true,id)],(true,id)::rd)
  |none=>none
def reach(ops:Array Oper):Nat→Oper→Nat→Bool
 |0,o,j=>Bq o j
 |n+1,o,j=>Bq o j||o.after.toList.any fun e=>Region.binds .any e&&match ops[e.on]? with|some p=>reach ops n p j|none=>false
def Nv(ops:Array Oper)(o:Oper)(w:Bool)(id:Nat):Log→Bool
 |[]=>true
 |(j,w',nN)::r=>(!(Nat.beq id nN)||(!w&& !w')||reach ops 4 o j)&&Nv ops o w id r
def yK(ops:Array Oper)(o:Oper)(lg:Log):bq→Bool
 |[]=>true
 |(w,id)::r=>Nv ops o w id lg&&yK ops o lg r
def A1(ops:Array Oper)(o:Oper)(id:Nat):Log→Bool
 |[]=>true
 |(j,_,n)::r=>(!(Nat.beq n (ve id))||reach ops 4 o j)&&A1 ops o id r
def vf(ops:Array Oper):List (Nat×Oper)→Oper→Bool
 |[],_=>true
 |(j,p)::r,o=>(p.apart ops o||reach ops 4 o j)&&vf ops r o
def mH(ops:Array Oper):List (Nat×Oper)→List (Nat×Oper)→Bool
 |_,[]=>true
 |done,(i,o)::r=>o.after.toList.all (fun e=> !(Region.binds .any e)||Nat.blt e.on i)&&vf ops done o&&mH ops ((i,o)::done) r
def guardOf(o:Oper)(A:List (Nat×Bool)):Option (Nat×Bool):=
 match o.guard with
 |none=>none
 |some g=>if A.elem g then none else some g
def zJ(A:List (Nat×Bool)):List (Nat×Oper)→List (Nat×Oper)×List (Nat×Oper)
 |[]=>([],[])
 |x::r=>match guardOf x.2 A with
  |some _=>let(a,b):=zJ A r;(x::a,b)
  |none=>([],x::r)
def kZ(f:Fr):List (Nat×Oper)→Fr
 |[]=>f
 |x::r=>kZ (gW f x.2.dst .top) r
def tB(g:Nat×Bool):List Nat→List (Nat×Oper)→Bool
 |_,[]=>true
 |done,x::r=>(match x.2.guard with
  |some h=>(Nat.beq h.1 g.1&&(h.2==g.2))||done.elem h.1
  |none=>false)&&tB g (x.1::done) r
def blind(ops:Array Oper)(body:List (Nat×Oper))(o:Oper):Bool:=body.all fun y=>match y.2.dst with
  |some d=> !((o.looksAt ops).elem d)
  |none=>true
def Rm:Bool→Bool→Bool
 |true,b=>b
 |false,b=> !b
def gF(f:Fr):List (Nat×Oper)→Fr
 |[]=>f
 |x::r=>gF (gW f x.2.dst (.aZ [])) r
def vQ:V→Option Bool
 |.pv (.bool b)=>some b
 |_=>none
end
def tC(E:Env)(o:Oper):Bool:=match o.dst with|some d=>Nat.blt d E.fn.ntmps|none=>true
def UW(E:Env)(f:Fr)(body:List (Nat×Oper))(o:Oper):Bool:=
 e9 o&&match o.op with
 |.call {callee:=.value (.func g),.. }=>(E.ctx g).isSome
 |.call {callee:=.value (.tmp t),.. }=>match(match body.find? (fun x=>x.2.dst==some t)with
  |some (_,p)=>(match p.op with
   |.move y=>bA E f y
   |.assign y=>bA E f y
   |_=>.top)
  |none=>bA E f (.tmp t))with
  |.fn g _=>(E.ctx g).isSome
  |.pv (.fn g _)=>(E.ctx g).isSome
  |.yl _=>false
  |_=>true
 |_=>true
noncomputable def cp(E:Env)(ops:Array Oper)(mode:Nat):(fuel:Nat)→(R:Type)→List (Nat×Bool)→List (Nat×Oper)→Fr→Mem→Log→(Fr→Mem→Option R)→Option R
 |0,_,_,_,_,_,_,_=>none
 |_+1,_,_,[],f,m,_,k=>k f m
 |fuel+1,R,A,(i,o)::rest,f,m,lg,k=>
  match guardOf o A with
  |none=>
   if tC E o then
    match(bif Nat.beq mode 2 then E7 E f m o else none)with
    |some (kl,ft)=>
     if yK ops o lg ft&&kl.all (fun x=>A1 ops o x.2 lg)&&rest.all (fun x=>reach ops 4 x.2 i)then GO E false (cD E o.dst) o f m fun v f1 m1 _=>cp E ops mode fuel R A rest (gW f1 o.dst v) m1 (ft.map (fun x=>(i,x))++lg) k
     else none
    |none=>GO E (Nat.beq mode 1||Nat.beq mode 2) (cD E o.dst) o f m fun v f1 m1 ft=>
      if Nat.beq mode 2 then(if yK ops o lg ft then cp E ops mode fuel R A rest (gW f1 o.dst v) m1 ((bif ops.toList.any (isApp E)then(A0 ops o f m m1 v ft).map (fun n=>(i,false,ve n))else[])++(ft.map (fun x=>(i,x))++lg)) k else none)
      else if Nat.beq mode 0 then cp E ops mode fuel R A rest (gW f1 o.dst v) m1 lg k
      else if xn ft then cp E ops mode fuel R A rest (gW f1 o.dst v) m1 lg k
      else none
   else none
  |some (j,yL)=>
   match((ops[j]?).bind (·.dst))with
   |some tj=>match bA E f (.tmp tj)with
    |.pv (.bool b)=>
     match zJ A ((i,o)::rest)with
     |(body,GQ)=>
     if Nat.beq mode 0&& !(body.all fun x=>UW E f body x.2)then
      (if(body.all fun x=>tC E x.2)&&tB (j,yL) [] body&&((i,o)::rest).all (fun x=> !(x.2.dst==some tj))then
       bif Rm yL b then cp E ops mode fuel R ((j,yL)::A) ((i,o)::rest) (fo f tj (.pv (.bool yL))) m lg k
       else cp E ops mode fuel R A GQ (gF (fo f tj (.pv (.bool !yL))) body) m lg k
      else none)
     else match GQ with
     |(_,p)::k8=>
      match p.op with
      |.pick (.tmp c) x y=>
       if Nat.beq c tj&&(guardOf p A).isNone&&body.all (fun x=>e9 x.2&&tC E x.2&& !(x.2.dst==some tj))&&tB (j,yL) [] body&&k8.all (fun x=>blind ops body x.2)&&tC E p&& !(Nat.beq mode 2)then
        (match yL with
         |true=>bif b then cp E ops (bif Nat.beq mode 0 then 3 else mode) fuel Bool ((j,yL)::A) body f m lg (fun f _=>vQ (bA E f x))else vQ (bA E (kZ f body) y)
         |false=>bif b then vQ (bA E (kZ f body) x)else cp E ops (bif Nat.beq mode 0 then 3 else mode) fuel Bool ((j,yL)::A) body f m lg (fun f _=>vQ (bA E f y))).bind fun r=>
        cp E ops mode fuel R A k8 (gW (kZ f body) p.dst (.pv (.bool r))) m lg k
       else none
      |_=>none
     |[]=>none
    |_=>none
   |none=>none
inductive Ex where
 |normal
 |exit (id:Nat)
 |ret
def GR{R:Type}(body:Fr→Mem→(Fr→Mem→Option R)→Option R):Nat→Fr→Mem→Option R
 |0,_,_=>none
 |n+1,f,m=>body f m (GR body n)
def vg:Code→Nat
 |.region id _ _=>id
 |.seq a _=>vg a
 |.cond _ a _=>vg a
 |.block _ b=>vg b
 |.loop b=>vg b
 |.scope b=>vg b
 |_=>0
def Nx:List Sh→Type→Type
 |[],T=>T
 |.raw::r,T=>PV×Nx r T
 |.int _::r,T=>Int×Nx r T
 |.bool::r,T=>Bool×Nx r T
 |.str::r,T=>Bytes×Nx r T
 |.rs _::r,T=>List PV×Nx r T
 |.rp _::r,T=>PV×Nx r T
 |.fs _::r,T=>List PV×Nx r T
 |.row _ _::r,T=>Int×Nx r T
 |.own _::r,T=>Nx r T
def Gw:List (Nat×Rg)→Type
 |[]=>Unit
 |(_,.box cs)::r=>Nx cs (Gw r)
 |(_,.arr _ _)::r=>List PV×Gw r
 |(_,.nZ _ _)::r=>List PV×Gw r
 |(_,.map _)::r=>List (PV×PV)×Gw r
 |(_,.nest _ _)::r=>List PV×Gw r
 |(_,.e8 _ _)::r=>List (PV×PV)×Gw r
 |(_,.loop)::r=>Gw r
 |(_,.busy)::r=>Gw r
 |(_,.iter _)::r=>List (PV×PV)×Gw r
def eY.iK(T:eY):List Sh:=T.ay.map Prod.snd
abbrev eY.ty(T:eY):Type:=Nx T.iK (Gw T.bE)
mutual
def V.same:V→V→Bool
 |.op i o,.op j p=>Nat.beq i j&&Nat.beq o p
 |.oe i a o,.oe j b p=>Nat.beq i j&&Nat.beq a b&&Nat.beq o p
 |.os i,.os j=>Nat.beq i j
 |.om i,.om j=>Nat.beq i j
 |.yl i,.yl j=>Nat.beq i j
 |.it i,.it j=>Nat.beq i j
 |.bl,.bl=>true
 |.pv .nM,.pv .nM=>true
 |.pv .th,.pv .th=>true
 |.pv (.int q x),.pv (.int q' y)=>decide (q=q')&&decide (x=y)
 |.fn f cs,.fn g ds=>Nat.beq f g&&DM cs ds
 |_,_=>false
def DM:List V→List V→Bool
 |[],[]=>true
 |a::as,b::bs=>a.same b&&DM as bs
 |_,_=>false
end
section
variable {R:Type}
def iL{T:Type}:(iK:List Sh)→List V→T→(Nx iK T→Option R)→Option R
 |[],[],t,k=>k t
 |.int q::iK,.pv (.int q' n)::vs,t,k=>if q'=q then iL iK vs t (fun r=>k (n,r))else none
 |.raw::iK,.pv p::vs,t,k=>iL iK vs t (fun r=>k (p,r))
 |.bool::iK,.pv (.bool b)::vs,t,k=>iL iK vs t (fun r=>k (b,r))
 |.str::iK,.pv (.str s)::vs,t,k=>iL iK vs t (fun r=>k (s,r))
 |.rs sz::iK,.pv (.rs Df es)::vs,t,k=>if Df=sz then iL iK vs t (fun r=>k (es,r))else none
 |.rp n::iK,.pv (.rp cs)::vs,t,k=>if cs.length=n then iL iK vs t (fun r=>k (.agg cs,r))else none
 |.fs s::iK,.pv p::vs,t,k=>(UU s p).bind fun ls=>iL iK vs t (fun r=>k (ls,r))
 |.row id off::iK,.tx nN i qE::vs,t,k=>if nN=id∧qE=off then iL iK vs t (fun r=>k ((i:Int),r))else none
 |.own v::iK,u::vs,t,k=>if v.same u then iL iK vs t k else none
 |_,_,_,_=>none
def rB(m:Mem):(bs:List (Nat×Rg))→(Gw bs→Option R)→Option R
 |[],k=>k ()
 |(id,.box cs)::r,k=>match m id with
  |some (.box vs)=>rB m r fun t=>iL (T:=Gw r) cs vs t k
  |_=>none
 |(id,.arr sz et)::r,k=>match m id with
  |some (.arr Df Bn es)=>if Df=sz∧Bn=et then rB m r fun t=>k (es,t)else none
  |_=>none
 |(id,.nZ sz et)::r,k=>match m id with
  |some (.nZ Df Bn es)=>if Df=sz∧Bn=et then rB m r fun t=>k (es,t)else none
  |_=>none
 |(id,.map kt)::r,k=>match m id with
  |some (.map tn es)=>if tn=kt then rB m r fun t=>k (es,t)else none
  |_=>none
 |(id,.nest sz et)::r,k=>match m id with
  |some (.nest Df Bn es)=>if Df=sz∧Bn=et then rB m r fun t=>k (es,t)else none
  |_=>none
 |(id,.e8 kt e)::r,k=>match m id with
  |some (.e8 tn e' es)=>if tn=kt∧e'=e then rB m r fun t=>k (es,t)else none
  |_=>none
 |(id,.loop)::r,k=>match m id with
  |some (.loop .ready)=>rB m r k
  |_=>none
 |(id,.busy)::r,k=>match m id with
  |some (.loop .busy)=>rB m r k
  |_=>none
 |(id,.iter t)::r,k=>match m id with
  |some (.iter t' es none)=>if t'=t then rB m r fun u=>k (es,u)else none
  |_=>none
def Sh.within(M:List Nat):Sh→Bool
 |.own v=>v.within M
 |.row id _=>M.elem id
 |_=>true
def Rg.within(M:List Nat):Rg→Bool
 |.box cs=>cs.all (·.within M)
 |_=>true
def eY.ok(T:eY):Bool:=T.ay.all (fun x=>x.2.within (T.bE.map (·.1)))&&T.bE.all (fun x=>x.2.within (T.bE.map (·.1)))
def Bs:List Sh→List V→Bool
 |[],[]=>true
 |.raw::iK,.pv _::vs=>Bs iK vs
 |.int q::iK,.pv (.int q' _)::vs=>decide (q'=q)&&Bs iK vs
 |.bool::iK,.pv (.bool _)::vs=>Bs iK vs
 |.str::iK,.pv (.str _)::vs=>Bs iK vs
 |.rs sz::iK,.pv (.rs Df _)::vs=>Nat.beq Df sz&&Bs iK vs
 |.rp n::iK,.pv (.rp cs)::vs=>Nat.beq cs.length n&&Bs iK vs
 |.fs s::iK,.pv p::vs=>(UU s p).isSome&&Bs iK vs
 |.row id off::iK,.tx nN _ qE::vs=>Nat.beq nN id&&Nat.beq qE off&&Bs iK vs
 |.own v::iK,u::vs=>v.same u&&Bs iK vs
 |_,_=>false
def Dn(m:Mem):List (Nat×Rg)→Bool
 |[]=>true
 |(id,.box cs)::r=>(match m id with|some (.box vs)=>Bs cs vs|_=>false)&&Dn m r
 |(id,.arr sz _)::r=>(match m id with|some (.arr Df _ _)=>Nat.beq Df sz|_=>false)&&Dn m r
 |(id,.nZ sz _)::r=>(match m id with|some (.nZ Df _ _)=>Nat.beq Df sz|_=>false)&&Dn m r
 |(id,.map _)::r=>(match m id with|some (.map _ _)=>true|_=>false)&&Dn m r
 |(id,.nest sz _)::r=>(match m id with|some (.nest Df _ _)=>Nat.beq Df sz|_=>false)&&Dn m r
 |(id,.e8 _ _)::r=>(match m id with|some (.e8 _ _ _)=>true|_=>false)&&Dn m r
 |(id,.loop)::r=>(match m id with|some (.loop .ready)=>true|_=>false)&&Dn m r
 |(id,.busy)::r=>(match m id with|some (.loop .busy)=>true|_=>false)&&Dn m r
 |(id,.iter _)::r=>(match m id with|some (.iter _ _ none)=>true|_=>false)&&Dn m r
def fits(f:Fr)(m:Mem)(T:eY):Bool:=Dn m T.bE&&Bs T.iK (T.ay.map fun(x:Nat×Sh)=>f x.1)
def enc(T:eY)(f:Fr)(m:Mem)(k:T.ty→Option R):Option R:=if T.ok then rB m T.bE fun t=>iL (T:=Gw T.bE) T.iK (T.ay.map fun(x:Nat×Sh)=>f x.1) t k else none
end
def pY{T:Type}:(iK:List Sh)→Nx iK T→List V×T
 |[],t=>([],t)
 |.int q::iK,x=>let r:=pY iK x.2;(.pv (.int q x.1)::r.1,r.2)
 |.raw::iK,x=>let r:=pY iK x.2;(.pv x.1::r.1,r.2)
 |.bool::iK,x=>let r:=pY iK x.2;(.pv (.bool x.1)::r.1,r.2)
 |.str::iK,x=>let r:=pY iK x.2;(.pv (.str x.1)::r.1,r.2)
 |.rs sz::iK,x=>let r:=pY iK x.2;(.pv (.rs sz x.1)::r.1,r.2)
 |.rp n::iK,x=>let r:=pY iK x.2;(.pv (.rp (aK n x.1))::r.1,r.2)
 |.fs s::iK,x=>let r:=pY iK x.2;(.pv (E2 s ((List.range s.n).map fun j=>x.1.getD j .bad)).1::r.1,r.2)
 |.row id off::iK,x=>let r:=pY iK x.2;(.tx id x.1.toNat off::r.1,r.2)
 |.own v::iK,x=>let r:=pY (T:=T) iK x;(v::r.1,r.2)
def gd:(bs:List (Nat×Rg))→Gw bs→List (Nat×Option bL)
 |[],_=>[]
 |(id,.box cs)::r,x=>let y:=pY (T:=Gw r) cs x;(id,some (.box y.1))::gd r y.2
 |(id,.arr sz et)::r,x=>(id,some (.arr sz et x.1))::gd r x.2
 |(id,.nZ sz et)::r,x=>(id,some (.nZ sz et x.1))::gd r x.2
 |(id,.map kt)::r,x=>(id,some (.map kt x.1))::gd r x.2
 |(id,.nest sz et)::r,x=>(id,some (.nest sz et x.1))::gd r x.2
 |(id,.e8 kt e)::r,x=>(id,some (.e8 kt e x.1))::gd r x.2
 |(id,.loop)::r,x=>(id,some (.loop .ready))::gd (r:List (Nat×Rg)) x
 |(id,.busy)::r,x=>(id,some (.loop .busy))::gd (r:List (Nat×Rg)) x
 |(id,.iter t)::r,x=>(id,some (.iter t x.1 none))::gd r x.2
def oD:List (Nat×Sh)→List V→List (Nat×V)
 |(t,_)::r,v::vs=>(t,v)::oD r vs
 |_,_=>[]
def JA(T:eY)(x:T.ty):Fr:=Ju (oD T.ay (pY (T:=Gw T.bE) T.iK x).1)
def Bt(T:eY)(x:T.ty):Mem:=Bg (gd T.bE (pY (T:=Gw T.bE) T.iK x).2)
def zK{A:Type}:List (Nat×Nat)→Fr→Mem→(Fr→Mem→A)→A
 |[],f,m,k=>k f m
 |(t,sz)::r,f,m,k=>match f t with
  |.os id=>match m id with
   |some (.arr s et es)=>zK r (fo f t (.pv (.rs s es))) (au m id (.nZ s et es)) k
   |some (.nZ s _ es)=>zK r (fo f t (.pv (.rs s es))) m k
   |_=>zK r f m k
  |.bl=>zK r (fo f t (.pv (.rs sz []))) m k
  |_=>zK r f m k
def DN{A:Type}:List (Nat×Nat×Nat)→Mem→(Mem→A)→A
 |[],m,k=>k m
 |(id,j,sz)::r,m,k=>match m id with
  |some (.box cs)=>match cs[j]? with
   |some .bl=>DN r (au m id (.box (cs.set j (.pv (.rs sz []))))) k
   |_=>DN r m k
  |_=>DN r m k
def zL{A:Type}(P:Program):List (Nat×Nat×Nat×TypeId)→Mem→(Mem→A)→A
 |[],m,k=>k m
 |(id,j,Rn,et)::r,m,k=>match m id with
  |some (.box cs)=>match cs[j]? with
   |some .bl=>match m Rn with
    |none=>if 0<aU P et then zL P r (au (au m Rn (.arr (aU P et) et [])) id (.box (cs.set j (.os Rn)))) k else zL P r m k
    |some _=>zL P r m k
   |_=>zL P r m k
  |_=>zL P r m k
def GS{A:Type}:List Nat→Mem→(Mem→A)→A
 |[],m,k=>k m
 |id::r,m,k=>match m id with
  |some (.arr s et es)=>GS r (au m id (.nest s et es)) k
  |_=>GS r m k
def zM{A:Type}:List (Nat×Nat)→Fr→Mem→(Fr→Mem→A)→A
 |[],f,m,k=>k f m
 |(id,j)::r,f,m,k=>match m id with
  |some (.box cs)=>match cs[j]? with
   |some (.fm a 0 len)=>match m a with
    |some (.arr s et es)=>if Nat.beq a id then zM r f m k else zM r (eP a f) (au (au (bh (bB a m) a) a (.arr s et (es.take len))) id (.box ((cs.map (qn a)).set j (.os a)))) k
    |_=>zM r f m k
   |_=>zM r f m k
  |_=>zM r f m k
def DO{A:Type}(P:Program)(T:eY)(f:Fr)(m:Mem)(k:Fr→Mem→A):A:=zM T.ct f m fun f m=>zL P T.bo m fun m=>DN T.bz m fun m=>GS T.nz m fun m=>zK T.fz f m k
variable{R:Type}
def Ex.GU(k1:Fr→Mem→Option R)(k:Ex→Fr→Mem→Option R):Ex→Fr→Mem→Option R
 |.normal,f,m=>k1 f m
 |e,f,m=>k e f m
def Ex.Rp(id:Nat)(k:Ex→Fr→Mem→Option R):Ex→Fr→Mem→Option R
 |.exit j,f,m=>if j=id then k .normal f m else k (.exit j) f m
 |e,f,m=>k e f m
def Ex.jmp:Ex→Option Jmp
 |.normal=>none
 |.exit id=>some (.exit id)
 |.ret=>some .ret
def Jmp.ex:Jmp→Ex
 |.ret=>.ret
 |.exit id=>.exit id
def Ny(n:Nat)(g f:Fr):Fr:=fun t=>bif Nat.blt t n then g t else f (t-n)
def Bu:List Nat→List V→Fr→Fr
 |p::ps,v::vs,f=>Bu ps vs (fo f p v)
 |_,_,f=>f
def roundOf(as b:Fr→Mem→(Ex→Fr→Mem→Option R)→Option R)(lid n:Nat)(ps:List Nat)(nt:Nat)(args:List V)(F:Fr)(m:Mem)(k:V→Fr→Mem→Option R):Option R:=
 match m lid with
 |some (.loop .ready)=>if args.length=ps.length then
  as (Ny n (Bu ps args (tA nt F)) F) m fun e f m=>match e,m lid with
   |.normal,some (.loop .ready)=>b f (au m lid (.loop .busy)) fun e f m=>match m lid with
    |some (.loop .busy)=>match e.jmp with
     |none=>k (.pv (.bool true)) (tA n f) (au m lid (.loop .ready))
     |some j=>k (.pv (.bool false)) (tA n f) (au m lid (.loop (.done j)))
    |_=>none
   |_,_=>none
  else none
 |_=>none
def Yd:V→Option (FuncId×List V)
 |.fn g mi=>some (g,mi)
 |.pv (.fn g mi)=>some (g,mi.map .pv)
 |_=>none
def aam(E:Env)(o:Oper):Bool:=match o.op with
 |.call c=>match c.callee with
  |.value (.func g)=>(E.ctx g).isNone&&(E.own g).isNone
  |_=>false
 |_=>false
def UX(E:Env)(ops:Array Oper):Option Nat:=ops.toList.findIdx? (aam E)
def Rq(ops:Array Oper)(p:Nat):Bool:=match ops[p]? with
 |none=>false
 |some o=>o.guard.isNone&&o.after.toList.all (fun e=> !(Region.binds .any e)||Nat.blt e.on p)&&((List.range ops.size).zip ops.toList).all fun x=>bif Nat.blt x.1 p then reach ops 8 o x.1 else Nat.beq x.1 p||reach ops 8 x.2 p
noncomputable def fg:(E:Env)→{R:Type}→Code→Fr→Mem→(Ex→Fr→Mem→Option R)→Option R
 |E,_,.skip,f,m,k=>k .normal f m
 |E,R,.region _ ops draw,f,m,k=>
  if draw then
   match UX E ops with
   |some p=>if Rq ops p&&mH ops [] (((List.range ops.size).zip ops.toList).take p)&&mH ops [] (((List.range ops.size).zip ops.toList).drop (p+1))then
     cp E ops 2 (ops.size+1) R [] (((List.range ops.size).zip ops.toList).take p) f m [] fun f m=>
     cp E ops 0 3 R [] ((((List.range ops.size).zip ops.toList).drop p).take 1) f m [] fun f m=>
     cp E ops 2 (ops.size+1) R [] (((List.range ops.size).zip ops.toList).drop (p+1)) f m [] fun f m=>k .normal f m
    else none
   |none=>
   (if mH ops [] ((List.range ops.size).zip ops.toList)then
    (if ops.toList.all e9 then cp E ops 1 (ops.size+1) R [] ((List.range ops.size).zip ops.toList) f m [] fun f m=>k .normal f m
    else cp E ops 2 (ops.size+1) R [] ((List.range ops.size).zip ops.toList) f m [] fun f m=>k .normal f m)
   else none)
  else cp E ops 0 (ops.size+ops.size+1) R [] ((List.range ops.size).zip ops.toList) f m [] fun f m=>k .normal f m
 |E,R,.seq a b,f,m,k=>fg E a f m (Ex.GU (fun f m=>fg E b f m k) k)
 |E,R,.cond c a b,f,m,k=>match c,bA E f c with
  |.tmp x,.pv (.bool t)=>if t then fg E a (fo f x (.pv (.bool true))) m k else fg E b (fo f x (.pv (.bool false))) m k
  |_,_=>none
 |E,R,.block id b,f,m,k=>fg E b f m (Ex.Rp id k)
 |E,R,.loop b,f,m,k=>match(E.hint E.fid (vg b)).find? (fun T=>DO E.P T f m fun f m=>fits f m T)with
  |some T=>DO E.P T f m fun f m=>enc T f m (E.lp.run fun s rec=>fg E b (JA T s) (Bt T s) (Ex.GU (fun f m=>DO E.P T f m fun f m=>enc T f m rec) k))
  |none=>GR (fun f m rec=>fg E b f m (Ex.GU rec k)) E.u f m
 |E,R,.exit id,f,m,k=>k (.exit id) f m
 |E,R,.ret,f,m,k=>k .ret f m
 |E,R,.label _,f,m,k=>k .normal f m
 |E,R,.scope b,f,m,k=>fg E b f m k
 |E,R,.rangeFunc g ps as b,f,m,k=>if E.Yc then none else match ps.toList with
  |p0::_=>fresh true (cD E (some p0)) (.loop .ready) f m fun f m _=>match Yd (bA E f g)with
   |some (gid,mi)=>E.Yb R gid (cD E (some p0)*4096+gid) (fun _ nt site id args F m k=>bif Nat.beq id (cD E (some p0))then
     roundOf (fg {E with fid:=site*4096+E.fid%4096,yl:=yD,Yc:=true} as) (fg {E with fid:=site*4096+E.fid%4096,yl:=yD,Yc:=true} b) (cD E (some p0)) E.fn.ntmps ps.toList nt args F m k
     else none)
    (.yl (cD E (some p0))::mi) f m fun _ f m=>match m (cD E (some p0))with
     |some (.loop .ready)=>k .normal (eP (cD E (some p0)) f) (bh (bB (cD E (some p0)) m) (cD E (some p0)))
     |some (.loop (.done j))=>k j.ex (eP (cD E (some p0)) f) (bh (bB (cD E (some p0)) m) (cD E (some p0)))
     |_=>none
   |_=>none
  |[]=>none
 |_,_,_,_,_,_=>none
def xo(E:Env){R:Type}(f:Fr)(m:Mem):List ResultVar→(List V→Option R)→Option R
 |[],k=>k []
 |.tmp t::rs,k=>xo E f m rs fun vs=>k (bA E f (.tmp t)::vs)
 |.cell a t::rs,k=>oB E false t (bA E f (.tmp a)) m fun v _=>xo E f m rs fun vs=>k (v::vs)
def Rr(E:Env)(rs:List ResultVar)(f:Fr)(m:Mem):Option PV:=xo E f m rs fun vs=>match vs with
  |[v]=>jt m eF v
  |vs=>(oz (jt m eF) vs).bind fun ps=>some (.aZ ps)
section
variable {R:Type} (E:Env)
def E8(t:TypeId)(p:PV)(k:PV→Option R):Option R:=
 match E.P.underlying t with
 |some (.int _)=>fN E t p k
 |some .bool=>fN E t p k
 |some .string=>fN E t p k
 |some (.slice _)=>fN E t p k
 |some (.map _ _)=>fN E t p k
 |_=>k p
def nO:List TypeId→List PV→(List PV→Option R)→Option R
 |t::ts,p::ps,k=>E8 E t p fun q=>nO ts ps fun qs=>k (q::qs)
 |_,ps,k=>k ps
def Nz(n:Nat)(p:PV)(a:Option R)(b:PV→Option R):Option R:=
 match p with
 |.nM=>a
 |.rp cs=>if n≤cs.length then b (.agg cs)else none
 |_=>none
def Rs(t:TypeId)(p:PV)(k:PV→Option R):Option R:=
 match E.P.underlying t with
 |some (.struct _)=>(asAgg (aU E.P t) p).bind fun _=>match Bp E.P 8 t with
  |some ts=>nO E ts (aK (aU E.P t) p) fun cs=>k (.agg cs)
  |none=>none
 |some (.array _ _)=>(asAgg (aU E.P t) p).bind fun _=>match Bp E.P 8 t with
  |some ts=>nO E ts (aK (aU E.P t) p) fun cs=>k (.agg cs)
  |none=>none
 |some (.pointer e)=>Nz (aU E.P e) p (k .nM) fun q=>match Bp E.P 8 e with
  |some ts=>nO E ts (aK (aU E.P e) q) fun cs=>k (.rp cs)
  |none=>none
 |_=>E8 E t p k
def wq:List TypeId→List PV→(List PV→Option R)→Option R
 |t::ts,p::ps,k=>Rs E t p fun q=>wq ts ps fun qs=>k (q::qs)
 |_,ps,k=>k ps
end
def Bv(args:List V):Fr:=fun t=>args.getD t .top
noncomputable def A2(E:Env)(args:List V)(f:Fr)(m:Mem)(k:V→Fr→Mem→Option R):Option R:=
 match E.fn.body with
 |some c=>if args.length≤E.fn.ntmps then fg E c (s8 E.fn.ntmps args f) m (fun e f m=>match e with
  |.exit _=>none
  |_=>xo E f m E.fn.results.toList fun vs=>match vs with
   |[v]=>k v (tA E.fn.ntmps f) m
   |vs=>k (.aZ vs) (tA E.fn.ntmps f) m)else none
 |none=>none
def Ye(E:Env)(f:Fr)(m:Mem):Option PV:=
 match E.fn.resultTypes.toList with
 |[t]=>match E.P.underlying t with
  |some (.slice e)=>xo E f m E.fn.results.toList fun vs=>match vs with
   |[.os id]=>match m id with
    |some (.arr sz et es)=>if sz=aU E.P e∧et=e then some (.rs sz es)else none
    |_=>none
   |[.fm id 0 len]=>match m id with
    |some (.arr sz et es)=>if sz=aU E.P e∧et=e then some (.rs sz (es.take len))else none
    |_=>none
   |_=>none
  |_=>none
 |_=>none
noncomputable def jZ(E:Env)(args:List PV):Option PV:=
 match E.fn.body with
 |some c=>if args.length≤E.fn.ntmps then wq E E.fn.params.toList args fun vs=>fg E c (Bv (vs.map .pv)) (fun _=>none) (fun e f m=>match e with
  |.exit _=>none
  |_=>Ye E f m)else none
 |none=>none
noncomputable def aM(E:Env)(args:List PV):Option PV:=
 match E.fn.body with
 |some c=>if args.length≤E.fn.ntmps then wq E E.fn.params.toList args fun vs=>fg E c (Bv (vs.map .pv)) (fun _=>none) (fun e f m=>match e with
  |.normal=>Rr E E.fn.results.toList f m
  |.ret=>Rr E E.fn.results.toList f m
  |.exit _=>none)else none
 |none=>none
end Go.Ab
