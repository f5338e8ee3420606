import Derived.Test.YtmbihgjlollbeaaGreatAbDefs
import Derived.Deep.Quiet
set_option linter.all false
namespace Go.Ab
inductive FS where
 |raw
 |fn (g:FuncId) (caps:List FS)
 |ptr (cells:List FS)
mutual
def Zz:FS→PV→Option (List PV)
 |.raw,p=>some [p]
 |.fn g cs,.fn g' qs=>if g'=g then KK cs qs else none
 |.ptr cs,.rp qs=>KK cs qs
 |_,_=>none
def KK:List FS→List PV→Option (List PV)
 |[],[]=>some []
 |s::ss,p::ps=>(Zz s p).bind fun a=>(KK ss ps).bind fun b=>some (a++b)
 |_,_=>none
end
mutual
def I0:FS→List PV→PV×List PV
 |.raw,[]=>(.bad,[])
 |.raw,p::r=>(p,r)
 |.fn g cs,l=>(.fn g (CW cs l).1,(CW cs l).2)
 |.ptr cs,l=>(.rp (CW cs l).1,(CW cs l).2)
def CW:List FS→List PV→List PV×List PV
 |[],l=>([],l)
 |s::ss,l=>((I0 s l).1::(CW ss (I0 s l).2).1,(CW ss (I0 s l).2).2)
end
mutual
def FS.n:FS→Nat
 |.raw=>1
 |.fn _ cs=>nFs cs
 |.ptr cs=>nFs cs
def nFs:List FS→Nat
 |[]=>0
 |s::ss=>s.n+nFs ss
end
inductive Sh where
 |raw
 |int (q:IntKind)
 |bool
 |str
 |rs (sz:Nat)
 |rp (n:Nat)
 |fs (s:FS)
 |row (id off:Nat)
 |own (v:V)
inductive DO where
 |box (cs:List Sh)
 |arr (sz:Nat) (et:TypeId)
 |rD (sz:Nat) (et:TypeId)
 |map (kt:TypeId)
 |nest (sz:Nat) (et:TypeId)
 |fh (kt e:TypeId)
 |loop
 |busy
 |iter (t:TypeId)
structure Hs where
 bM:List (Nat×Sh)
 Ad:List (Nat×DO)
 fz:List (Nat×Nat):=[]
 bz:List (Nat×Nat×Nat):=[]
 bo:List (Nat×Nat×Nat×TypeId):=[]
 nz:List Nat:=[]
 ct:List (Nat×Nat):=[]
structure bD where
 run:{S R:Type}→(S→(S→Option R)→Option R)→S→Option R
 room:Nat→Bool
 iX:∀n,room n=true→(n:Int)≤IntKind.i64.max
def cg{S R:Type}(body:S→(S→Option R)→Option R):Nat→S→Option R
 |0,_=>none
 |n+1,s=>body s (cg body n)
abbrev YL:=(R:Type)→Nat→Nat→Nat→List V→Fr→Mem→(V→Fr→Mem→Option R)→Option R
def B8:YL:=fun _ _ _ _ _ _ _ _=>none
structure Env where
 P:Program
 ctx:FuncId→Option (List PV→Option PV)
 aG:Nat→Option (List PV)
 fid:FuncId
 fn:Func
 lp:bD
 hint:Nat→Nat→List Hs
 u:Nat
 own:FuncId→Option (List PV→Option PV)
 inl:(R:Type)→FuncId→Nat→List V→Fr→Mem→(V→Fr→Mem→Option R)→Option R
 rng:(R:Type)→FuncId→Nat→YL→List V→Fr→Mem→(V→Fr→Mem→Option R)→Option R
 yl:YL
 rdb:Bool:=false
 fnr:FuncId→Option FS:=fun _=>none
 B9:Nat→Bool:=fun _=>false
section
variable {R:Type} (E:Env)
def cD(kt:TypeId)(p:PV)(a:Option R)(b:List PV→List PV→Option R):Option R:=
 match p with
 |.vq=>a
 |.rm xh ks vs=>if xh=kt then b ks vs else none
 |_=>none
def iB(t:TypeId)(p:PV)(k:PV→Option R):Option R:=
 match E.P.underlying t with
 |some (.int q)=>(asInt q p).bind fun n=>k (.int q n)
 |some .bool=>(asBool p).bind fun b=>k (.bool b)
 |some .string=>(bu p).bind fun s=>k (.str s)
 |some (.slice e)=>(aw (aN E.P e) p).bind fun es=>k (.rs (aN E.P e) es)
 |some (.struct _)=>(asAgg (aN E.P t) p).bind fun _=>k (.agg (aC (aN E.P t) p))
 |some (.array _ _)=>(asAgg (aN E.P t) p).bind fun _=>k (.agg (aC (aN E.P t) p))
 |some (.pointer _)=>match p with
  |.rQ=>k p
  |.rp _=>k p
  |_=>none
 |some (.map kt _)=>cD kt p (k .vq) fun ks vs=>k (.rm kt ks vs)
 |some (.func _ _ _)=>match p with
  |.DN=>k .DN
  |.fn g cs=>k (.fn g cs)
  |_=>none
 |some (.interface _)=>(PR p).bind fun b=>k (.Zx b)
 |_=>none
def AZ(t:TypeId)(v:V)(k:V→Option R):Option R:=
 match v with
 |.pv p=>iB E t p fun p=>k (.pv p)
 |.top=>none
 |v=>if(E.P.underlying t).isSome then k v else none
def CX:List TypeId→List PV→(List V→Option R)→Option R
 |[],[],k=>k []
 |t::ts,p::ps,k=>iB E t p fun q=>CX ts ps fun vs=>k (.pv q::vs)
 |_,_,_=>none
def CY(ts:List TypeId)(r:PV)(k:V→Option R):Option R:=
 match ts with
 |[]=>(dn 0 r).bind fun _=>k (.aO [])
 |[t]=>iB E t r fun q=>k (.pv q)
 |ts=>(dn ts.length r).bind fun vs=>CX E ts ((List.range ts.length).map fun j=>vs.getD j .bad) fun us=>k (.aO us)
def Ca(fid:FuncId)(ts:List TypeId)(r:PV)(k:V→Option R):Option R:=
 match E.fnr fid with
 |some s=>(Zz s r).bind fun ls=>k (.pv (I0 s ((List.range s.n).map fun j=>ls.getD j .bad)).1)
 |none=>CY E ts r k
def bC(f:Fr):Operand→V
 |.tmp t=>bif Nat.blt t E.fn.ntmps then f t else .top
 |.const c=>Hr c
 |.global g=>match E.aG g with|some cs=>.pv (.rp cs)|none=>.top
 |.func f=>bif Nat.blt f Eu then .fn f []else .top
def fresh(draw:Bool)(site:Nat)(b:bH)(f:Fr)(m:Mem)(k:Fr→Mem→bq→Option R):Option R:=
 match m site with
 |none=>k f (ao m site b) [(true,site)]
 |some _=>if draw||b.names site then none else k (eS site f) (ao (bE site m) site b) [(true,site)]
def rU:V→Option (List V)
 |.pv (.agg cs)=>some (cs.map .pv)
 |.agg cs=>some cs
 |_=>none
def cP:Mem:=fun _=>none
def nd(op:BinOp)(t:TypeId)(a b:V)(k:PV→Option R):Option R:=
 match a,b with
 |.pv (.int q x),.pv (.int q' y)=>match op with
  |.shl=>if y<0 then none else k (.int q (q.wrap (x*2^(min y.toNat q.bits))))
  |.shr=>if y<0 then none else k (.int q (x.fdiv (2^(min y.toNat q.bits))))
  |op=>if q=q' then match op with
   |.add=>k (.int q (q.wrap (x+y)))
   |.sub=>k (.int q (q.wrap (x-y)))
   |.mul=>k (.int q (q.wrap (x*y)))
   |.quo=>if y=0 then none else k (.int q (q.wrap (x.tdiv y)))
   |.rem=>if y=0 then none else k (.int q (x.tmod y))
   |.and=>k (.int q (q.wrap (BitVec.ofInt q.bits x&&&BitVec.ofInt q.bits y).toNat))
   |.or=>k (.int q (q.wrap (BitVec.ofInt q.bits x|||BitVec.ofInt q.bits y).toNat))
   |.xor=>k (.int q (q.wrap (BitVec.ofInt q.bits x^^^BitVec.ofInt q.bits y).toNat))
   |.andNot=>k (.int q (q.wrap (BitVec.ofInt q.bits x&&& ~~~(BitVec.ofInt q.bits y)).toNat))
   |.eql=>k (.bool (x==y))
   |.neq=>k (.bool (x !=y))
   |.lss=>k (.bool (decide (x<y)))
   |.leq=>k (.bool (decide (x≤y)))
   |.gtr=>k (.bool (decide (x>y)))
   |.geq=>k (.bool (decide (x≥y)))
   |_=>none
   else none
 |.pv (.str x),.pv (.str y)=>match op with
  |.add=>if E.lp.room (x.length+y.length)=true then k (.str (x++y))else none
  |.eql=>k (.bool (x==y))
  |.neq=>k (.bool (!(x==y)))
  |.lss=>k (.bool (Op.bytesLess x y))
  |.leq=>k (.bool (Op.bytesLess x y||x==y))
  |.gtr=>k (.bool (!(Op.bytesLess x y||x==y)))
  |.geq=>k (.bool (!(Op.bytesLess x y)))
  |_=>none
 |.pv (.bool x),.pv (.bool y)=>match op,E.P.underlying t with
  |.eql,some .bool=>k (.bool (x==y))
  |.neq,some .bool=>k (.bool (!(x==y)))
  |_,_=>none
 |.pv .rQ,.pv .rQ=>match op,E.P.underlying t with
  |.eql,some (.pointer _)=>k (.bool true)
  |.neq,some (.pointer _)=>k (.bool false)
  |_,_=>none
 |.fn _ _,.pv .DN|.pv (.fn _ _),.pv .DN=>match op,E.P.underlying t with
  |.eql,some (.func _ _ _)=>k (.bool false)
  |.neq,some (.func _ _ _)=>k (.bool true)
  |_,_=>none
 |.pv (.rp _),.pv .rQ|.op _ _,.pv .rQ|.oe _ _ _,.pv .rQ=>match op,E.P.underlying t with
  |.eql,some (.pointer _)=>k (.bool false)
  |.neq,some (.pointer _)=>k (.bool true)
  |_,_=>none
 |a,b=>if ax E.P t then match tx E.P t,rU a,rU b with
  |some ks,some as,some bs=>match qT (lF cP 1) as,qT (lF cP 1) bs with
   |some as,some bs=>if lK ks as=true∧lK ks bs=true then match op with
    |.eql=>k (.bool (cu as bs))
    |.neq=>k (.bool (!(cu as bs)))
    |_=>none
    else none
   |_,_=>none
  |_,_,_=>none
  else none
def Ew:Operand→Bool
 |.const .nilIface=>true
 |_=>false
def UG(op:BinOp)(t:TypeId)(a:V)(k:PV→Option R):Option R:=
 match a with
 |.pv (.Zx b)=>match op,E.P.underlying t with
  |.eql,some (.interface _)=>k (.bool (!b))
  |.neq,some (.interface _)=>k (.bool b)
  |_,_=>none
 |_=>none
def KL(op:BinOp)(t:TypeId)(y:Operand)(a b:V)(k:PV→Option R):Option R:=bif Ew y then UG E op t a k else nd E op t a b k
noncomputable def agree(a b:Option R):Option R:= @ite _ (a=b) (Classical.propDecidable _) a none
noncomputable def Nn(op:BinOp)(t:TypeId)(es:List PV)(k:Bool→Option R):Option R:=
 match op,E.P.underlying t with
 |.eql,some (.slice _)=>if es.isEmpty=true then agree (k true) (k false)else k false
 |.neq,some (.slice _)=>if es.isEmpty=true then agree (k false) (k true)else k true
 |_,_=>none
def xun(op:UnOp)(a:V)(k:PV→Option R):Option R:=
 match op,a with
 |.not,.pv (.bool b)=>k (.bool !b)
 |.neg,.pv (.int q n)=>k (.int q (q.wrap (0-n)))
 |.xor,.pv (.int q n)=>k (.int q (q.wrap (BitVec.ofInt q.bits (if q.signed then-1 else q.max)^^^BitVec.ofInt q.bits n).toNat))
 |_,_=>none
def Ey(s d:TypeId)(a:V)(k:PV→Option R):Option R:=
 match E.P.underlying s,E.P.underlying d,a with
 |some (.int q),some (.int q'),.pv (.int q'' n)=>if q''=q then(if q'=q then k (.int q n)else k (.int q' (q'.wrap n)))else none
 |some .string,some .string,.pv (.str s)=>k (.str s)
 |_,_,_=>none
def tN(s:Nat)(t:TypeId)(e:PV)(off:Nat)(k:V→Option R):Option R:=
 if ax E.P t then(if off+aN E.P t≤s then k (.pv (.agg (((aC s e).drop off).take (aN E.P t))))else none)
 else match(aC s e)[off]? with
  |some p=>iB E t p fun p=>k (.pv p)
  |none=>none
def pvO:V→Option PV
 |.pv p=>some p
 |_=>none
def Cb(t:TypeId)(s i off:Nat):Bool:=match E.P.underlying t with
 |some (.array _ e)=>Nat.beq (aN E.P e) s&&ax E.P e&&Nat.beq i 0&&Nat.beq off 0
 |_=>false
def qL(own:Bool)(t:TypeId)(a:V)(m:Mem)(k:V→bq→Option R):Option R:=
 match a with
 |.pv (.rp cs)=>
  if ax E.P t then(if aN E.P t≤cs.length then k (.pv (.agg (cs.take (aN E.P t)))) []else none)
  else(cs.head?).bind fun p=>iB E t p fun p=>k (.pv p) []
 |.op id off=>match m id with
  |some (.box cs)=>
   if ax E.P t then(if off+aN E.P t≤cs.length then k (.agg ((cs.drop off).take (aN E.P t))) [(false,id)]else none)
   else match qT pvO cs with
    |some ps=>(ps[off]?).bind fun p=>iB E t p fun p=>k (.pv p) [(false,id)]
    |none=>match cs[off]? with
     |some v=>AZ E t v fun v=>k v [(false,id)]
     |none=>none
  |_=>none
 |.oe id i off=>match m id with
  |some (.arr s _ es)=>bif Cb E t s i off then(if es.length*s=aN E.P t then k (.pv (.agg (fS s es))) [(false,id)]else none)else(es[i]?).bind fun e=>tN E s t e off fun v=>k v [(false,id)]
  |some (.rD s _ es)=>(es[i]?).bind fun e=>tN E s t e off fun v=>k v [(false,id)]
  |some (.nest _ _ es)=>if ax E.P t then none else(es[i]?).bind fun e=>
   if own then(match E.P.underlying t with
    |some (.slice et)=>(fi (aN E.P et) (cell e off)).bind fun _=>k (.xn id i off) [(false,id)]
    |_=>none)
   else iB E t (cell e off) fun p=>k (.pv p) [(false,id)]
  |_=>none
 |.AX id i off s j off2=>match m id with
  |some (.nest _ _ es)=>(es[i]?).bind fun e=>(fi s (cell e off)).bind fun rs=>(rs[j]?).bind fun q=>tN E s t q off2 fun v=>k v [(false,id)]
  |_=>none
 |_=>none
def over{T:Type}:List T→List T→List T
 |[],cs=>cs
 |x::new,[]=>x::over new []
 |x::new,_::cs=>x::over new cs
def bI{T:Type}:List T→Nat→List T→List T
 |cs,0,new=>over new cs
 |[],_+1,new=>new
 |c::cs,off+1,new=>c::bI cs off new
theorem I1{T:Type}:∀(new cs:List T),over new cs=new++cs.drop new.length
 |[],cs=>by rfl
 |x::new,[]=>by simp[over,I1 new []]
 |x::new,_::cs=>by simp[over,I1 new cs]
theorem dU{T:Type}:∀(cs:List T)(off:Nat)(new:List T),bI cs off new=cs.take off++new++cs.drop (off+new.length)
 |cs,0,new=>by cases cs<;>simp[bI,I1]
 |[],_+1,new=>by simp[bI]
 |c::cs,off+1,new=>by rw[bI,dU cs off new,show off+1+new.length=(off+new.length)+1 by omega];simp
def xp(draw:Bool)(m:Mem)(n:Nat)(agg:Bool)(v:V):Option (PV×Mem):=if draw then(match kR cP n agg v with|some (p,_)=>some (p,m)|none=>none)else kR m n agg v
def setRow(s:Nat)(e:PV)(off:Nat)(p:PV):PV:=if s=1 then p else .agg ((aC s e).set off p)
def setCells(s:Nat)(e:PV)(off n:Nat)(p:PV):PV:=if off=0∧n=s then p else .agg (bI (aC s e) off p.cells)
def Np(t:TypeId)(i off:Nat)(b:Option bH)(x:V):Option (Nat×TypeId×Nat×PV):=match b,x with
 |some (.arr s et es),.pv p=>bif Cb E t s i off then some (s,et,es.length,p)else none
 |_,_=>none
def tO(draw:Bool)(t:TypeId)(a x:V)(m:Mem)(k:Mem→bq→Option R):Option R:=
 match a with
 |.op id off=>match m id with
  |some (.box cs)=>match toCells (aN E.P t) x with
   |some new=>if off+aN E.P t≤cs.length∧0<aN E.P t then k (ao m id (.box (bI cs off new))) [(true,id)]else none
   |none=>none
  |_=>none
 |.oe id i off=>match Np E t i off (m id) x with
  |some (s,et,n,p)=>(asAgg (aN E.P t) p).bind fun _=>if n*s=aN E.P t∧0<aN E.P t then k (ao m id (.arr s et (fu s n p))) [(true,id)]else none
  |none=>match xp draw m (aN E.P t) (ax E.P t) x with
  |some (p,m)=>match m id with
   |some (.arr s et es)=>(es[i]?).bind fun e=>
    if off=0∧aN E.P t=s∧0<s then k (ao m id (.arr s et (es.set i p))) [(true,id)]
    else if off+aN E.P t≤s∧0<aN E.P t∧1<s then k (ao m id (.arr s et (es.set i (.agg (bI (aC s e) off p.cells))))) [(true,id)]
    else none
   |some (.nest s et es)=>(es[i]?).bind fun e=>if off+aN E.P t≤s∧0<aN E.P t∧1<s then k (ao m id (.nest s et (es.set i (.agg (bI (aC s e) off p.cells))))) [(true,id)]else none
   |_=>none
  |none=>none
 |.AX id i off s j off2=>match kR cP (aN E.P t) (ax E.P t) x with
  |some (p,_)=>match m id with
   |some (.nest s0 et es)=>(es[i]?).bind fun e=>(fi s (cell e off)).bind fun rs=>(rs[j]?).bind fun q=>
    if off2+aN E.P t≤s∧0<aN E.P t∧off<s0 then k (ao m id (.nest s0 et (es.set i (setRow s0 e off (.qS s (rs.set j (setCells s q off2 (aN E.P t) p))))))) [(true,id)]
    else none
   |_=>none
  |none=>none
 |_=>none
def G0(m:Mem)(x:V)(k:Nat→bq→Option R):Option R:=
 match x with
 |.pv (.rs _ es)=>k es.length []
 |.iy=>k 0 []
 |.fR id _ len=>match m id with
  |some (.arr _ _ _)=>k len [(false,id)]
  |some (.rD _ _ _)=>k len [(false,id)]
  |_=>none
 |.os id=>match m id with
  |some (.arr _ _ es)=>k es.length [(false,id)]
  |some (.rD _ _ es)=>k es.length [(false,id)]
  |some (.nest _ _ es)=>k es.length [(false,id)]
  |some (.box cs)=>if cs.length≤maxLen then k cs.length [(false,id)]else none
  |_=>none
 |_=>none
def Sc(sz:Nat)(m:Mem)(x:V)(k:Nat→bq→Option R):Option R:=
 match x with
 |.xn id i off=>match m id with
  |some (.nest _ _ es)=>(es[i]?).bind fun e=>(fi sz (cell e off)).bind fun rs=>k rs.length [(false,id)]
  |_=>none
 |x=>G0 m x k
def UH(m:Mem)(x:V)(k:Nat→bq→Option R):Option R:=
 match x with
 |.om id=>match m id with
  |some (.map _ es)=>if es.length≤maxLen then k es.length [(false,id)]else none
  |_=>none
 |.pv .vq=>k 0 []
 |_=>none
def KM(t:TypeId)(x:V)(m:Mem)(k:V→bq→Option R):Option R:=
 match E.P.underlying t with
 |some (.array n _)=>if n≤maxLen then k (.pv (.int .i64 n)) []else none
 |some .string=>match x with
  |.pv (.str s)=>k (.pv (.int .i64 s.length)) []
  |_=>none
 |some (.slice e)=>Sc (aN E.P e) m x fun n ft=>k (.pv (.int .i64 n)) ft
 |some (.map _ _)=>UH m x fun n ft=>k (.pv (.int .i64 n)) ft
 |_=>none
def fv(m:Mem)(sz:Nat):V→Option (List PV×bq)
 |.pv (.rs s es)=>if s=sz then some (es,[])else match es with|[]=>some ([],[])|_=>none
 |.iy=>some ([],[])
 |.os id=>match m id with
  |some (.arr s' _ es)=>if s'=sz then some (es,[(false,id)])else none
  |some (.rD s' _ es)=>if s'=sz then some (es,[(false,id)])else none
  |_=>none
 |.fR id lo len=>match m id with
  |some (.arr s' _ es)=>if s'=sz then some ((es.drop lo).take len,[(false,id)])else none
  |some (.rD s' _ es)=>if s'=sz then some ((es.drop lo).take len,[(false,id)])else none
  |_=>none
 |.xn id i off=>match m id with
  |some (.nest _ _ es)=>(es[i]?).bind fun e=>(fi sz (cell e off)).bind fun rs=>some (rs,[(false,id)])
  |_=>none
 |_=>none
def I2(m:Mem)(sz:Nat)(x:V)(k:List PV→bq→Option R):Option R:=
 match x with
 |.xn id i off=>match m id with
  |some (.nest _ _ es)=>(es[i]?).bind fun e=>(fi sz (cell e off)).bind fun rs=>k rs [(false,id)]
  |_=>none
 |x=>match fv m sz x with
  |some (es,ft)=>k es ft
  |none=>none
def Cc:List PV→Option Bytes
 |[]=>some []
 |.int .u8 n::r=>(Cc r).map fun b=>UInt8.ofNat n.toNat::b
 |_=>none
def Cd(s d:TypeId)(a:V)(m:Mem)(k:PV→bq→Option R):Option R:=
 match E.P.underlying s,E.P.underlying d with
 |some (.slice e),some .string=>match E.P.underlying e,fv m 1 a with
  |some (.int .u8),some (es,ft)=>(Cc es).bind fun b=>k (.str b) ft
  |_,_=>none
 |_,_=>Ey E s d a fun p=>k p []
def an(i:Int)(n:Nat):Prop:=0≤i∧i<(n:Int)
instance (i:Int) (n:Nat):Decidable (an i n):=inferInstanceAs (Decidable (_∧_))
def cY(t:TypeId)(x ix:V)(m:Mem)(k:V→bq→Option R):Option R:=
 match ix with
 |.pv (.int _ i)=>match E.P.underlying t,x with
  |some (.slice e),.pv (.rs s es)=>if s=aN E.P e∧0<s then(fj es i).bind fun p=>k (.pv (.rp (aC s p))) []else none
  |some (.slice e),.os id=>match m id with
   |some (.arr s _ es)=>if s=aN E.P e∧0<s then(if an i es.length then k (.oe id i.toNat 0) [(false,id)]else none)else none
   |some (.rD s _ es)=>if s=aN E.P e∧0<s then(if an i es.length then k (.oe id i.toNat 0) [(false,id)]else none)else none
   |some (.nest s _ es)=>if s=aN E.P e∧0<s then(if an i es.length then k (.oe id i.toNat 0) [(false,id)]else none)else none
   |some (.box cs)=>if aN E.P e=1∧an i cs.length then k (.op id i.toNat) [(false,id)]else none
   |_=>none
  |some (.slice e),.xn id i0 off=>match m id with
   |some (.nest _ _ es)=>if 0<aN E.P e then(es[i0]?).bind fun e0=>(fi (aN E.P e) (cell e0 off)).bind fun rs=>if an i rs.length then k (.AX id i0 off (aN E.P e) i.toNat 0) [(false,id)]else none else none
   |_=>none
  |some (.slice e),.fR id lo len=>match m id with
   |some (.arr s _ _)=>if s=aN E.P e∧0<s then(if an i len then k (.oe id (lo+i.toNat) 0) [(false,id)]else none)else none
   |some (.rD s _ _)=>if s=aN E.P e∧0<s then(if an i len then k (.oe id (lo+i.toNat) 0) [(false,id)]else none)else none
   |_=>none
  |some (.array n e),.op id off=>if an i n∧0<aN E.P e then k (.op id (off+i.toNat*aN E.P e)) []else none
  |some (.array n e),.pv (.rp cs)=>if an i n∧0<aN E.P e then k (.pv (.rp (cs.drop (i.toNat*aN E.P e)))) []else none
  |some (.array n e),.oe id j off=>if an i n∧0<aN E.P e then(match(match m id with|some (.arr s _ _)=>Nat.beq (aN E.P e) s|_=>false)with
   |true=>k (.oe id (i.toNat+j) off) [(false,id)]
   |false=>k (.oe id j (off+i.toNat*aN E.P e)) [(false,id)])else none
  |_,_=>none
 |_=>none
def A0(s:TypeId)(j:Nat):Option (Nat×TypeId):=
 match E.P.underlying s with
 |some (.struct fs)=>match fs[j]? with
  |some f=>if aN E.P f.type=0 then none else some (f.offset,f.type)
  |none=>none
 |_=>none
def kr(s:TypeId)(x:V)(j:Nat)(k:V→Option R):Option R:=
 match A0 E s j with
 |some (o,_)=>match x with
  |.pv (.rp cs)=>k (.pv (.rp (cs.drop o)))
  |.op id off=>k (.op id (off+o))
  |.oe id i off=>k (.oe id i (off+o))
  |.AX id i off s j off2=>k (.AX id i off s j (off2+o))
  |_=>none
 |none=>none
def Ez(t:TypeId)(cs:List V)(off:Nat)(k:V→Option R):Option R:=
 if ax E.P t then(if off+aN E.P t≤cs.length then k (.agg ((cs.drop off).take (aN E.P t)))else none)
 else match cs[off]? with
  |some v=>AZ E t v k
  |none=>none
def EA(s:TypeId)(x:V)(j:Nat)(k:V→Option R):Option R:=
 match A0 E s j,rU x with
 |some (o,t),some cs=>Ez E t cs o k
 |_,_=>none
def Ce(t:TypeId)(x ix:V)(k:V→Option R):Option R:=
 match ix with
 |.pv (.int _ i)=>match E.P.underlying t,x with
  |some .string,.pv (.str s)=>(Zy s i).bind fun b=>k (.pv (.int .u8 b.toNat))
  |some (.array n et),x=>match rU x with
   |some cs=>if an i n∧0<aN E.P et then Ez E et cs (i.toNat*aN E.P et) k else none
   |none=>none
  |_,_=>none
 |_=>none
def jQ(d:Int):Option V→Option Int
 |none=>some d
 |some (.pv (.int _ i))=>some i
 |_=>none
def vt(t:TypeId)(x:V)(lo hi mx:Option V)(m:Mem)(k:V→bq→Option R):Option R:=
 match mx with
 |some mx=>match E.P.underlying t,x with
  |some (.slice e),.os id=>match m id with
   |some (.arr s _ es)=>match lo,hi,mx with
    |none,some (.pv (.int _ h)),.pv (.int _ c)=>if 0≤h∧h≤c∧c≤(es.length:Int)∧s=aN E.P e then k (.fR id 0 h.toNat) [(false,id)]else none
    |_,_,_=>none
   |_=>none
  |_,_=>none
 |none=>match E.P.underlying t,x with
  |some .string,.pv (.str s)=>match jQ 0 lo,jQ s.length hi with
   |some l,some h=>if 0≤l∧l≤h∧h≤(s.length:Int)then k (.pv (.str ((s.take h.toNat).drop l.toNat))) []else none
   |_,_=>none
  |some (.slice e),.pv (.rs sz es)=>match jQ 0 lo,jQ es.length hi with
   |some l,some h=>if 0≤l∧l≤h∧h≤(es.length:Int)∧sz=aN E.P e∧aN E.P e≠0 then k (.pv (.rs sz ((es.take h.toNat).drop l.toNat))) []else none
   |_,_=>none
  |some (.slice e),.os id=>match m id with
   |some (.arr s _ es)=>match jQ 0 lo,jQ es.length hi with
    |some l,some h=>if 0≤l∧l≤h∧h≤(es.length:Int)∧s=aN E.P e then k (.fR id l.toNat (h.toNat-l.toNat)) [(false,id)]else none
    |_,_=>none
   |some (.rD s _ es)=>match jQ 0 lo,jQ es.length hi with
    |some l,some h=>if 0≤l∧l≤h∧h≤(es.length:Int)∧s=aN E.P e then k (.fR id l.toNat (h.toNat-l.toNat)) [(false,id)]else none
    |_,_=>none
   |_=>none
  |_,_=>none
def placesOf(fs:List Field)(j:Nat):Option (Nat×Nat):=(fs[j]?).map fun f=>(f.offset,aN E.P f.type)
def Ht(place:Nat→Option (Nat×Nat))(cs:List V):List (Nat×V)→Option (List V)
 |[]=>some cs
 |(i,v)::rest=>match place i with
  |some (off,size)=>match toCells size v with
   |some new=>if off+size≤cs.length then Ht place (bI cs off new) rest else none
   |none=>none
  |none=>none
def cZ(t:TypeId):Option (List V):=match zeroV E.P t with|some v=>toCells (aN E.P t) v|none=>none
def Cf(t:TypeId)(parts:List (Nat×V))(k:V→Option R):Option R:=
 match cZ E t,E.P.underlying t with
 |some z,some (.struct fs)=>if fs.toList.all (fun f=>(E.P.info? f.type).isSome)then match Ht (placesOf E fs.toList) z parts with
  |some cs=>k (.agg cs)
  |none=>none
  else none
 |some z,some (.array _ e)=>if 0<aN E.P e then match Ht (fun i=>some (i*aN E.P e,aN E.P e)) z parts with
  |some cs=>k (.agg cs)
  |none=>none
  else none
 |_,_=>none
def fb(m:Mem)(n:Nat)(agg:Bool):Nat→List (Nat×V)→Option (List PV×Mem)
 |_,[]=>some ([],m)
 |i,(j,v)::r=>if i=j then match kR m n agg v with
  |some (p,m)=>match fb m n agg (i+1) r with
   |some (ps,m)=>some (p::ps,m)
   |none=>none
  |none=>none
  else none
def EB:Nat→List (Nat×V)→Option (List V)
 |_,[]=>some []
 |i,(j,v)::r=>if i=j then match toCells 1 v with
  |some cs=>match EB (i+1) r with
   |some us=>some (cs++us)
   |none=>none
  |none=>none
  else none
def PS(t:TypeId):Bool:=match E.P.underlying t with|some (.func _ _ _)=>true|_=>false
def Cg(t:TypeId):Option PV:=match zeroV E.P t with
 |some v=>match lF cP 2 v with
  |some p=>if ax E.P t=p.isAgg∧p.cells.length=aN E.P t∧p.plain=true then some p else none
  |none=>none
 |none=>none
def keyOf(kt:TypeId)(v:V):Option PV:=
 match tx E.P kt with
 |some ks=>
  if ax E.P kt then(match rU v with
   |some cs=>match qT (lF cP 1) cs with
    |some ps=>if lK ks ps then some (.agg ps)else none
    |none=>none
   |none=>none)
  else match v with
   |.pv p=>if lK ks [p]then some p else none
   |_=>none
 |none=>none
def KN(site:Nat)(t:TypeId)(x ix:V)(m:Mem)(k:V→Mem→bq→Option R):Option R:=
 match E.P.underlying t with
 |some (.map kt et)=>match E.P.underlying et with
  |some (.slice e)=>match x,zeroV E.P et with
   |.om id,some .iy=>match m id,m site with
    |some (.fh xh e' es),none=>if xh=kt∧e'=e∧0<aN E.P e then(keyOf E kt ix).bind fun key=>(KJ (aN E.P e) key es).bind fun rs=>k (.os site) (ao (ao m id (.fh kt e (uG key es))) site (.arr (aN E.P e) e rs)) [(true,id),(true,site)]else none
    |_,_=>none
   |_,_=>none
  |_=>none
 |_=>none
def vu(t:TypeId)(x ix:V)(ok:Bool)(m:Mem)(k:V→bq→Option R):Option R:=
 match E.P.underlying t with
 |some (.map kt et)=>match Cg E et with
  |some z=>match x with
   |.om id=>match m id with
    |some (.map xh es)=>if xh=kt then(keyOf E kt ix).bind fun key=>iB E et (b9 key z es) fun v=>k (if ok then .aO [.pv v,.pv (.bool (th key es))]else .pv v) [(false,id)]else none
    |_=>none
   |.pv p=>cD kt p ((keyOf E kt ix).bind fun _=>k (if ok then .aO [.pv z,.pv (.bool false)]else .pv z) []) fun ks vs=>(keyOf E kt ix).bind fun key=>iB E et (b9 key z (ks.zip vs)) fun v=>k (if ok then .aO [.pv v,.pv (.bool (th key (ks.zip vs)))]else .pv v) []
   |_=>none
  |none=>none
 |_=>none
def A1(draw:Bool)(m:Mem)(v:V):Option (PV×Mem):=if draw then(match vr cP v with|some (p,_)=>some (p,m)|none=>none)else vr m v
def oO(draw:Bool)(t:TypeId)(x key val:V)(m:Mem)(k:Mem→bq→Option R):Option R:=
 match E.P.underlying t with
 |some (.map kt _)=>match x with
  |.om id=>match A1 draw m val with
   |some (v,m)=>match m id with
    |some (.map xh es)=>if xh=kt then(keyOf E kt key).bind fun key=>k (ao m id (.map kt (dh key v es))) [(true,id)]else none
    |_=>none
   |none=>none
  |_=>none
 |_=>none
def ae:Nat:=140737488355328
def lX(m:Mem):Nat→List V→Option (List PV×Option (Nat×Nat))
 |_,[]=>some ([],none)
 |j,.os id::r=>match m id with
  |some (.arr s _ es)=>match lX m (j+1) r with
   |some (ps,none)=>some (.qS s es::ps,some (j,id))
   |_=>none
  |_=>none
 |j,v::r=>match lF cP 1 v with
  |some p=>match lX m (j+1) r with
   |some (ps,t)=>some (p::ps,t)
   |none=>none
  |none=>none
def elemOf(agg:Bool)(ps:List PV):Option PV:=if agg then some (.agg ps)else match ps with|[p]=>some p|_=>none
inductive Sp where
 |st (id i off s:Nat) (et:TypeId) (es ps:List PV) (id2:Nat)
 |app (id s:Nat) (et:TypeId) (es new:List PV) (src:Option Nat) (rd:bq)
 |lit (s:Nat) (et:TypeId) (p:PV) (id2:Nat)
 |upd (id:Nat) (kt e:TypeId) (es:List (PV×PV)) (key:PV) (s:Nat) (rs:List PV) (id2:Nat)
def Ae(site:Nat)(o:Oper)(f:Fr)(m:Mem):Option Sp:=
 match o.op with
 |.store t a x=>match bC E f a with
  |.oe id i off=>match m id with
   |some (.nest s et es)=>match toCells (aN E.P t) (bC E f x)with
    |some cs=>match lX m 0 cs with
     |some (ps,some (_,id2))=>if off+aN E.P t≤s&&0<aN E.P t&& !(Nat.beq id2 id)then some (.st id i off s et es ps id2)else none
     |_=>none
    |none=>none
   |_=>none
  |_=>none
 |.buildSlice t len parts=>match E.P.underlying t,parts.toList.map fun(i,x)=>(i,bC E f x)with
  |some (.slice e),[(0,v)]=>match toCells (aN E.P e) v with
   |some cs=>match lX m 0 cs,m site with
    |some (ps,some (_,id2)),none=>match elemOf (ax E.P e) ps with
     |some p=>if Nat.beq len 1&&0<aN E.P e&&aN E.P e≤16777216&&(cZ E e).isSome then some (.lit (aN E.P e) e p id2)else none
     |none=>none
    |_,_=>none
   |none=>none
  |_,_=>none
 |.call c=>match c.callee,c.args.toList.map (bC E f),c.argTypes.toList with
  |.builtin .append,[.os id,x],[t,t']=>match E.P.underlying t,m id with
   |some (.slice e),some (.nest s et es)=>if et=e&&s=aN E.P e&&decide (t'=t)&&(cZ E e).isSome&&0<aN E.P e&&0<GZ E.P e then(match x with
    |.os tl=>match m tl with
     |some (.nest s' GX new)=>if Nat.beq s' s&&decide (GX=et)&& !(Nat.beq tl id)then some (.app id s et es new (some tl) [])else none
     |_=>match fv m s x with
      |some (new,rd)=>if x.has id then none else some (.app id s et es new none rd)
      |none=>none
    |_=>match fv m s x with
     |some (new,rd)=>if x.has id then none else some (.app id s et es new none rd)
     |none=>none)else none
   |_,_=>none
  |_,_,_=>none
 |.mapUpdate t x key v=>match E.P.underlying t,bC E f x,bC E f v with
  |some (.map kt _),.om id,.os id2=>match m id,m id2,keyOf E kt (bC E f key)with
   |some (.fh xh e es),some (.arr s e' rs),some key=>if decide (xh=kt)&&decide (e'=e)&&Nat.beq s (aN E.P e)then some (.upd id kt e es key s rs id2)else none
   |_,_,_=>none
  |_,_,_=>none
 |_=>none
def Sp.info(site:Nat):Sp→Kl×bq
 |.st id _ _ _ _ _ _ id2=>([(true,id2),(false,id)],[(true,id),(true,id2)])
 |.app id _ _ _ _ (some id2) _=>([(true,id2),(true,id)],[(true,id),(true,id2)])
 |.app id _ _ _ _ none rd=>([(true,id)],(true,id)::rd)
 |.lit _ _ _ id2=>([(true,id2)],[(true,site),(true,id2)])
 |.upd id _ _ _ _ _ _ id2=>([(true,id2),(false,id)],[(true,id),(true,id2)])
def xsp(site:Nat)(sp:Sp)(f:Fr)(m:Mem)(k:V→Fr→Mem→bq→Option R):Option R:=
 match sp with
 |.st id i off s et es ps id2=>(es[i]?).bind fun e=>k .top (kf [(true,id2),(false,id)] f) (uD [(id,.nest s et (es.set i (if s=1 then ps.headD .bad else .agg (bI (aC s e) off ps))))] (km [(true,id2),(false,id)] m)) [(true,id),(true,id2)]
 |.app id s et es new src rd=>if(es++new).length*GZ E.P et≤ae then k (.os id) (kf (Sp.app id s et es new src rd|>.info site).1 f) (uD [(id,.nest s et (es++new))] (km (Sp.app id s et es new src rd|>.info site).1 m)) (Sp.app id s et es new src rd|>.info site).2 else none
 |.lit s et p id2=>k (.os site) (kf [(true,id2)] f) (uD [(site,.nest s et [p])] (km [(true,id2)] m)) [(true,site),(true,id2)]
 |.upd id kt e es key s rs id2=>k .top (kf [(true,id2),(false,id)] f) (uD [(id,.fh kt e (dh key (.qS s rs) es))] (km [(true,id2),(false,id)] m)) [(true,id),(true,id2)]
def A2(draw:Bool)(site:Nat)(t t':TypeId)(s x:V)(f:Fr)(m:Mem)(k:V→Fr→Mem→Option R):Option R:=
 if draw|| !(decide (t'=t))then none else
 match E.P.underlying t with
 |some (.slice e)=>if(cZ E e).isNone then none else match fv m (aN E.P e) x with
  |some (new,_)=>match s with
   |.iy=>if new.length*GZ E.P e≤ae∧0<GZ E.P e∧0<aN E.P e then fresh draw site (.arr (aN E.P e) e new) f m (fun f m _=>k (.os site) f m)else none
   |.os id=>match m id with
    |some (.arr sz et es)=>if et=e∧sz=aN E.P e∧x.has id=false then(if(es++new).length*GZ E.P e≤ae∧0<GZ E.P e then fresh draw id (.arr sz e (es++new)) (eS id f) (bh (bE id m) id) (fun f m _=>k (.os id) f m)else none)else none
    |_=>none
   |_=>none
  |none=>none
 |_=>none
def KO(t:TypeId)(d x:V)(m:Mem)(k:V→Mem→bq→Option R):Option R:=
 match E.P.underlying t with
 |some (.slice e)=>match d with
  |.os id=>match m id with
   |some (.arr sz et es)=>if sz=aN E.P e∧x.has id=false then I2 m sz x fun new ft=>k (.pv (.int .i64 (min new.length es.length:Nat))) (ao m id (.arr sz et (new.take es.length++es.drop new.length))) ((true,id)::ft)else none
   |_=>none
  |_=>none
 |_=>none
def EC(t:TypeId)(x:V)(m:Mem)(k:V→Mem→bq→Option R):Option R:=
 match E.P.underlying t with
 |some (.slice e)=>match x,Cg E e with
  |.fR id lo len,some z=>match m id with
   |some (.arr sz et es)=>if sz=aN E.P e∧et=e∧lo+len≤es.length∧0<aN E.P e then k .top (ao m id (.arr sz et (es.take lo++(List.replicate len z++es.drop (lo+len))))) [(true,id)]else none
   |_=>none
  |_,_=>none
 |_=>none
def rV(draw:Bool)(site:Nat)(t:TypeId)(len cap:V)(f:Fr)(m:Mem)(k:V→Fr→Mem→bq→Option R):Option R:=
 match E.P.underlying t,len,cap with
 |some (.slice e),.pv (.int _ n),.pv (.int _ c)=>match Cg E e with
  |some z=>if 0≤n∧n≤c∧c.toNat*GZ E.P e≤ae∧0<GZ E.P e∧0<aN E.P e then fresh draw site (.arr (aN E.P e) e (List.replicate n.toNat z)) f m (fun f m ft=>k (.os site) f m ft)else none
  |none=>none
 |_,_,_=>none
def KP(a b:V)(k:PV→Option R):Option R:=match a,b with
 |.pv (.int q x),.pv (.int q' y)=>if q=q' then k (.int q (if y<x then y else x))else none
 |_,_=>none
def CZ(a b:V)(k:PV→Option R):Option R:=match a,b with
 |.pv (.int q x),.pv (.int q' y)=>if q=q' then k (.int q (if y>x then y else x))else none
 |_,_=>none
def KQ(a b c d:V)(k:PV→Option R):Option R:=CZ a b fun p=>CZ (.pv p) c fun p=>CZ (.pv p) d k
def vv(t:TypeId):Bool:=match E.P.underlying t with|some (.int _)|some .bool|some .string=>true|_=>false
def iY(m:Mem):List V→Option (List PV×Mem)
 |[]=>some ([],m)
 |v::r=>match vr m v with
  |some (p,m)=>match iY m r with
   |some (ps,m)=>some (p::ps,m)
   |none=>none
  |none=>none
def Hu:PV→PV
 |.int q n=>.int q n
 |.bool b=>.bool b
 |.str s=>.str s
 |_=>.bad
def wx(draw:Bool)(site:Nat)(fid:FuncId)(args:List V)(f:Fr)(m:Mem)(k:V→Fr→Mem→bq→Option R):Option R:=
 match E.ctx fid with
 |some M=>match E.P.funcs[fid]? with
  |some fn=>
   if fn.resultTypes.toList.all (vv E)then(match qT (lF m eE) args with
     |some ps=>(M ps).bind fun r=>CY E fn.resultTypes.toList r fun v=>k v f m ((iW (cE m eE) args).map fun i=>(false,i))
     |none=>none)
   else(match iY (if draw then cP else m) args with
     |some (ps,m')=>(M ps).bind fun r=>Ca E fid fn.resultTypes.toList r fun v=>k v f (if draw then m else m') (if draw then[]else[(true,0)])
     |none=>none)
  |none=>none
 |none=>match E.own fid with
  |some M=>match E.P.funcs[fid]? with
   |some fn=>match fn.resultTypes.toList with
    |[t]=>match E.P.underlying t with
     |some (.slice e)=>if vv E e=true∧aN E.P e=1 then(match qT (lF m eE) args with
      |some ps=>(M ps).bind fun r=>(aw (aN E.P e) r).bind fun es=>fresh draw site (.arr (aN E.P e) e (es.map Hu)) f m fun f m1 ft=>k (.os site) f m1 (ft++(iW (cE m eE) args).map fun i=>(false,i))
      |none=>none)
      else match iY (if draw then cP else m) args with
      |some (ps,m')=>(M ps).bind fun r=>(aw (aN E.P e) r).bind fun es=>fresh draw site (.arr (aN E.P e) e es) f (if draw then m else m') fun f m ft=>k (.os site) f m ft
      |none=>none
     |_=>none
    |_=>none
   |none=>none
  |none=>if draw then none else E.inl R fid (site*4096+fid) args f m fun v f m=>k v f m [(true,0)]
def UI(f:TypeId→Option (List TypeId)):List Field→Option (List TypeId)
 |[]=>some []
 |x::r=>(f x.type).bind fun a=>(UI f r).bind fun b=>some (a++b)
def UJ(l:List TypeId):Nat→List TypeId
 |0=>[]
 |n+1=>l++UJ l n
def ED(P:Program):Nat→TypeId→Option (List TypeId)
 |0,_=>none
 |d+1,t=>match P.underlying t with
  |some (.struct fs)=>UI (ED P d) fs.toList
  |some (.array n e)=>(ED P d e).bind fun l=>some (UJ l n)
  |some _=>some [t]
  |none=>none
def wy(n:Nat)(args:List V)(f:Fr):Fr:=fun t=>bif Nat.blt t n then args.getD t .top else f (t-n)
def xq(n:Nat)(f:Fr):Fr:=fun t=>f (t+n)
def UK:V→Bool
 |.iy=>true
 |_=>false
def uH(site j:Nat):Nat:=site+(j+1)*1606938044258990275541962092341162602522202993782792835301376
def yO(E:Env){R:Type}(site:Nat):List TypeId→Nat→Fr→Mem→(Fr→Mem→Option R)→Option R
 |[],_,F,m,k=>k F m
 |t::ts,j,F,m,k=>match F j with
  |.iy=>match E.P.underlying t with
   |some (.slice e)=>if 0<aN E.P e then fresh false (uH site j) (.arr (aN E.P e) e []) F m fun F m _=>yO E site ts (j+1) (gu F j (.os (uH site j))) m k else none
   |_=>none
  |_=>yO E site ts (j+1) F m k
def aeK(E:Env)(t:TypeId):Bool:=match E.P.underlying t with|some (.slice _)=>true|_=>false
def I3(f:Fr):Option Operand→Bool
 |none=>true
 |some x=>match bC E f x with|.pv (.int _ _)=>true|_=>false
noncomputable def tA(n:Nat)(g:Nat→Option R):Option R:= @dite _ (∃r,∀i,i<n→g i=some r) (Classical.propDecidable _) (fun h=>some (Classical.choose h)) fun _=>none
def Nq(site:Nat)(t:TypeId)(x:V)(f:Fr)(m:Mem)(k:V→Fr→Mem→Option R):Option R:=
 match E.P.underlying t with
 |some (.map kt _)=>match x with
  |.om id=>match m id with
   |some (.map xh es)=>if xh=kt then fresh false site (.iter t es none) (eS id f) (bh (bE id m) id) fun f m _=>k (.it site) f m else none
   |_=>none
  |_=>none
 |_=>none
noncomputable def UL(x:V)(f:Fr)(m:Mem)(k:V→Fr→Mem→Option R):Option R:=
 match x with
 |.it id=>match m id with
  |some (.iter t es _)=>match E.P.underlying t with
   |some (.map kt et)=>if es.isEmpty=true then k (.aO [.pv (.bool false)]) f m else tA es.length fun i=>(es[i]?).bind fun e=>iB E kt e.1 fun a=>iB E et e.2 fun b=>k (.aO [.pv (.bool true),.pv a,.pv b]) f (ao m id (.iter t (es.eraseIdx i) (some (a,b))))
   |_=>none
  |_=>none
 |_=>none
def Nr(x:V)(m:Mem)(k:V→Mem→Option R):Option R:=
 match x with
 |.it id=>match m id with
  |some (.iter t es (some (a,b)))=>k (.aO [.pv a,.pv b]) (ao m id (.iter t es none))
  |_=>none
 |_=>none
def Ns:Op→Bool
 |.range .. =>true
 |.next .. =>true
 |.entry .. =>true
 |_=>false
def wz(g:FuncId):FuncId:=bif Nat.blt g Eu then g else g-Eu
def Af(g:FuncId)(caps args:List V):List V:=bif Nat.blt g Eu then args++caps else caps++args
noncomputable def cv(draw:Bool)(site:Nat)(o:Oper)(f:Fr)(m:Mem)(k:V→Fr→Mem→bq→Option R):Option R:=
 match o.op with
 |.move x=>k (bC E f x) f m []
 |.assign x=>match bC E f x with
  |.iy=>match E.P.underlying o.type with
   |some (.slice e)=>if 0<aN E.P e then fresh draw site (.arr (aN E.P e) e []) f m fun f m ft=>k (.os site) f m ft else none
   |_=>k .iy f m []
  |v=>k v f m []
 |.pick c a b=>match bC E f c with
  |.pv (.bool t)=>if t then k (bC E f a) f m []else k (bC E f b) f m []
  |_=>none
 |.alloc t=>match cZ E t with
  |some cs=>bif E.B9 site then(match E.P.underlying t,qT pvO cs with
   |some (.array n e),some ps=>if ax E.P e=true∧n*aN E.P e=aN E.P t∧0<aN E.P e∧n≤16777216 then fresh draw site (.arr (aN E.P e) e (fu (aN E.P e) n (.agg ps))) f m fun f m ft=>k (.oe site 0 0) f m ft else none
   |_,_=>none)
   else if !draw&&aeK E t then yO E site [t] 0 (wy cs.length cs f) m fun F m=>fresh false site (.box ((List.range cs.length).map F)) (xq cs.length F) m fun f m ft=>k (.op site 0) f m ft
   else fresh draw site (.box cs) f m fun f m ft=>k (.op site 0) f m ft
  |none=>none
 |.box t x=>match toCells (aN E.P t) (bC E f x)with
  |some cs=>if !draw&&cs.any UK then(match ED E.P 8 t with
   |some ts=>if ts.length=cs.length then yO E site ts 0 (wy cs.length cs f) m fun F m=>fresh false site (.box ((List.range cs.length).map F)) (xq cs.length F) m fun f m ft=>k (.op site 0) f m ft else none
   |none=>none)else fresh draw site (.box cs) f m fun f m ft=>k (.op site 0) f m ft
  |none=>none
 |.build t parts=>Cf E t (parts.toList.map fun(i,x)=>(i,bC E f x)) fun v=>k v f m []
 |.buildSlice t len parts=>match E.P.underlying t with
  |some (.slice e)=>if PS E e then(match EB 0 (parts.toList.map fun(i,x)=>(i,bC E f x))with
   |some cs=>if parts.size=len∧aN E.P e=1∧len≤16777216∧(cZ E e).isSome=true then fresh draw site (.box cs) f m fun f m ft=>k (.os site) f m ft else none
   |none=>none)
   else if E.B9 (site+1000000000000000000000000000000)then(match fb cP (aN E.P e) (ax E.P e) 0 (parts.toList.map fun(i,x)=>(i,bC E f x))with
   |some (es,_)=>if es.length=len∧0<aN E.P e∧len*aN E.P e≤16777216∧(cZ E e).isSome=true then k (.pv (.rs (aN E.P e) es)) f m []else none
   |none=>none)
   else match fb (if draw then cP else m) (aN E.P e) (ax E.P e) 0 (parts.toList.map fun(i,x)=>(i,bC E f x))with
   |some (es,m1)=>if es.length=len∧0<aN E.P e∧len*aN E.P e≤16777216∧(cZ E e).isSome=true then fresh draw site (.arr (aN E.P e) e es) f (if draw then m else m1) fun f m ft=>k (.os site) f m ft else none
   |none=>none
  |_=>none
 |.load t a=>qL E (E.B9 site) t (bC E f a) m fun v ft=>k v f m ft
 |.store t a x=>tO E draw t (bC E f a) (bC E f x) m fun m ft=>k .top f m ft
 |.nilCheck x=>match bC E f x with
  |.pv (.rp cs)=>k (.pv (.rp cs)) f m []
  |.op id off=>k (.op id off) f m []
  |.oe id i off=>k (.oe id i off) f m []
  |.AX id i off s j off2=>k (.AX id i off s j off2) f m []
  |.fn g cs=>k (.fn g cs) f m []
  |.pv (.fn g cs)=>k (.pv (.fn g cs)) f m []
  |_=>none
 |.binOp op t x y _=>match bC E f x,bC E f y with
  |.pv (.rs _ es),.iy=>if draw then none else Nn E op t es fun b=>k (.pv (.bool b)) f m [(true,0)]
  |a,b=>KL E op t y a b fun p=>k (.pv p) f m []
 |.unOp op _ x=>xun op (bC E f x) fun p=>k (.pv p) f m []
 |.convert s d x=>Cd E s d (bC E f x) m fun p ft=>k (.pv p) f m ft
 |.makeFunc (.func g) first caps=>bif Nat.blt g Eu then(if first.isEmpty then k (.fn g (caps.toList.map (bC E f))) f m []else if caps.isEmpty then k (.fn (g+Eu) (first.toList.map (bC E f))) f m []else none)else none
 |.makeMap t hint=>if I3 E f hint=true then match E.P.underlying t with
  |some (.map kt et)=>if(tx E.P kt).isSome then(if E.B9 site then(match E.P.underlying et with
   |some (.slice e)=>fresh draw site (.fh kt e []) f m fun f m ft=>k (.om site) f m ft
   |_=>none)
   else fresh draw site (.map kt []) f m fun f m ft=>k (.om site) f m ft)else none
  |_=>none
  else none
 |.makeSlice t l c=>rV E draw site t (bC E f l) (bC E f c) f m k
 |.slice t x lo hi mx=>vt E t (bC E f x) (lo.map (bC E f)) (hi.map (bC E f)) (mx.map (bC E f)) m fun v ft=>k v f m ft
 |.fieldAddr s x j=>kr E s (bC E f x) j fun v=>k v f m []
 |.field s x j=>EA E s (bC E f x) j fun v=>k v f m []
 |.indexAddr t x ix=>cY E t (bC E f x) (bC E f ix) m fun v ft=>k v f m ft
 |.index t x ix=>Ce E t (bC E f x) (bC E f ix) fun v=>k v f m []
 |.lookup t x ix ok=>if E.B9 site&& !ok then KN E site t (bC E f x) (bC E f ix) m fun v m ft=>k v f m ft else vu E t (bC E f x) (bC E f ix) ok m fun v ft=>k v f m ft
 |.mapUpdate t x key v=>oO E draw t (bC E f x) (bC E f key) (bC E f v) m fun m ft=>k .top f m ft
 |.insert t x key v=>oO E draw t (bC E f x) (bC E f key) (bC E f v) m fun m ft=>k .top f m ft
 |.range t x=>if draw then none else Nq E site t (bC E f x) f m fun v f m=>k v f m [(true,0)]
 |.next x s=>if draw||s then none else UL E (bC E f x) f m fun v f m=>k v f m [(true,0)]
 |.entry x=>if draw then none else Nr (bC E f x) m fun v m=>k v f m [(true,0)]
 |.extract t i=>match bC E f t with
  |.aO vs=>match vs[i]? with
   |some v=>k v f m []
   |none=>none
  |_=>none
 |.call c=>match c.callee,c.args.toList.map (bC E f)with
  |.builtin .len,[x]=>match c.argTypes.toList with
   |[t]=>KM E t x m fun v ft=>k v f m ft
   |_=>none
  |.builtin .append,[s,x]=>match c.argTypes.toList with
   |[t,t']=>A2 E draw site t t' s x f m fun v f m=>k v f m [(true,0)]
   |_=>none
  |.builtin .copy,[d,x]=>match c.argTypes.toList with
   |t::_=>KO E t d x m fun v m ft=>k v f m ft
   |_=>none
  |.builtin .clear,[x]=>match c.argTypes.toList with
   |t::_=>EC E t x m fun v m ft=>k v f m ft
   |_=>none
  |.builtin .min,[a,b]=>KP a b fun p=>k (.pv p) f m []
  |.builtin .max,[a,b]=>CZ a b fun p=>k (.pv p) f m []
  |.builtin .max,[a,b,c,d]=>KQ a b c d fun p=>k (.pv p) f m []
  |.value (.func g),args=>wx E draw site g args f m k
  |.value (.tmp t),args=>match bC E f (.tmp t)with
   |.fn g caps=>wx E draw site (wz g) (Af g caps args) f m k
   |.pv (.fn g caps)=>wx E draw site (wz g) (Af g (caps.map .pv) args) f m k
   |.yl id=>if draw then none else E.yl R E.fn.ntmps site id args f m fun v f m=>k v f m [(true,0)]
   |_=>none
  |_,_=>none
 |_=>none
noncomputable def KS(draw:Bool)(site:Nat)(o:Oper)(f:Fr)(m:Mem)(k:V→Fr→Mem→bq→Option R):Option R:=
 match(bif draw then none else bif E.B9 site then Ae E site o f m else none)with
 |some sp=>xsp E site sp f m k
 |none=>cv E draw site o f m k
def fk(o:Oper):Bool:=
 match o.op with
 |.move _|.assign _|.pick .. |.load .. |.nilCheck _|.binOp .. |.unOp .. |.convert .. |.slice .. |.fieldAddr .. |.field .. |.indexAddr .. |.index .. |.lookup .. |.extract .. |.build .. =>true
 |.call {callee:=.builtin .len,.. }|.call {callee:=.builtin .min,.. }|.call {callee:=.builtin .max,.. }=>true
 |.call {callee:=.value _,.. }=>true
 |_=>false
def A3:bq→Bool
 |[]=>true
 |(w,_)::r=> !w&&A3 r
abbrev Log:=List (Nat×Bool×Nat)
def EE(o:Oper)(j:Nat):Bool:=o.after.toList.any fun e=>Region.binds .any e&&Nat.beq e.on j
mutual
def V.ids:V→List Nat
 |.agg cs=>KT cs
 |.aO cs=>KT cs
 |.fn _ cs=>KT cs
 |.os j=>[j]
 |.fR j _ _=>[j]
 |.oe j _ _=>[j]
 |.om j=>[j]
 |.xn j _ _=>[j]
 |.AX j _ _ _ _ _=>[j]
 |.op j _=>[j]
 |.yl j=>[j]
 |.it j=>[j]
 |_=>[]
def KT:List V→List Nat
 |[]=>[]
 |v::r=>v.ids++KT r
end
def EF:Option bH→List Nat
 |some (.box cs)=>KT cs
 |_=>[]
def yP(n:Nat):Nat:=n+2037035976334486086268445688409378161051468393665936250636140449354381299763336706183397376
def I4(m m':Mem):bq→List Nat
 |[]=>[]
 |x::r=>EF (m x.2)++EF (m' x.2)++I4 m m' r
def D6(ops:Array Oper)(o:Oper)(f:Fr)(m m':Mem)(v:V)(ft:bq):List Nat:=KT ((o.looksAt ops).map f)++v.ids++I4 m m' ft
def cw(E:Env)(d:Option Nat):Nat:=match d with|some d=>E.fid*4096+d|none=>E.fid*4096+4095
def isApp(E:Env)(o:Oper):Bool:=E.B9 (cw E o.dst)||match o.op with|.call {callee:=.builtin .append,.. }=>true|_=>false
def vw(E:Env)(f:Fr)(m:Mem)(o:Oper):Option (Nat×bq):=
 match o.op with
 |.call c=>match c.callee,c.args.toList.map (bC E f),c.argTypes.toList with
  |.builtin .append,[.os id,x],[t,_]=>match E.P.underlying t with
   |some (.slice e)=>match fv m (aN E.P e) x with
    |some (_,rd)=>if x.has id then none else some (id,rd)
    |none=>none
   |_=>none
  |_,_,_=>none
 |_=>none
def I5(E:Env)(f:Fr)(m:Mem)(o:Oper):Option (Kl×bq):=
 match(bif E.B9 (cw E o.dst)then Ae E (cw E o.dst) o f m else none)with
 |some sp=>some (sp.info (cw E o.dst))
 |none=>match vw E f m o with
  |some (id,rd)=>some ([(true,id)],(true,id)::rd)
  |none=>none
def reach(ops:Array Oper):Nat→Oper→Nat→Bool
 |0,o,j=>EE o j
 |n+1,o,j=>EE o j||o.after.toList.any fun e=>Region.binds .any e&&match ops[e.on]? with|some p=>reach ops n p j|none=>false
def PT(ops:Array Oper)(o:Oper)(w:Bool)(id:Nat):Log→Bool
 |[]=>true
 |(j,w',tl)::r=>(!(Nat.beq id tl)||(!w&& !w')||reach ops 4 o j)&&PT ops o w id r
def Ch(ops:Array Oper)(o:Oper)(lg:Log):bq→Bool
 |[]=>true
 |(w,id)::r=>PT ops o w id lg&&Ch ops o lg r
def D7(ops:Array Oper)(o:Oper)(id:Nat):Log→Bool
 |[]=>true
 |(j,_,n)::r=>(!(Nat.beq n (yP id))||reach ops 4 o j)&&D7 ops o id r
def yQ(ops:Array Oper):List (Nat×Oper)→Oper→Bool
 |[],_=>true
 |(j,p)::r,o=>(p.apart ops o||reach ops 4 o j)&&yQ ops r o
def pt(ops:Array Oper):List (Nat×Oper)→List (Nat×Oper)→Bool
 |_,[]=>true
 |done,(i,o)::r=>o.after.toList.all (fun e=> !(Region.binds .any e)||Nat.blt e.on i)&&yQ ops done o&&pt ops ((i,o)::done) r
def guardOf(o:Oper)(A:List (Nat×Bool)):Option (Nat×Bool):=
 match o.guard with
 |none=>none
 |some g=>if A.elem g then none else some g
def C0(A:List (Nat×Bool)):List (Nat×Oper)→List (Nat×Oper)×List (Nat×Oper)
 |[]=>([],[])
 |x::r=>match guardOf x.2 A with
  |some _=>let(a,b):=C0 A r;(x::a,b)
  |none=>([],x::r)
def nq(f:Fr):List (Nat×Oper)→Fr
 |[]=>f
 |x::r=>nq (jB f x.2.dst .top) r
def xr(g:Nat×Bool):List Nat→List (Nat×Oper)→Bool
 |_,[]=>true
 |done,x::r=>(match x.2.guard with
  |some h=>(Nat.beq h.1 g.1&&(h.2==g.2))||done.elem h.1
  |none=>false)&&xr g (x.1::done) r
def blind(ops:Array Oper)(body:List (Nat×Oper))(o:Oper):Bool:=body.all fun y=>match y.2.dst with
  |some d=> !((o.looksAt ops).elem d)
  |none=>true
def Hv:Bool→Bool→Bool
 |true,b=>b
 |false,b=> !b
def iZ(f:Fr):List (Nat×Oper)→Fr
 |[]=>f
 |x::r=>iZ (jB f x.2.dst (.aO [])) r
def zB:V→Option Bool
 |.pv (.bool b)=>some b
 |_=>none
end
def xt(E:Env)(o:Oper):Bool:=match o.dst with|some d=>Nat.blt d E.fn.ntmps|none=>true
def I6(E:Env)(g:FuncId):Bool:=match E.P.funcs[g]? with|some fn=>fn.resultTypes.toList.all (vv E)|none=>false
def ZA(E:Env)(f:Fr)(body:List (Nat×Oper))(o:Oper):Bool:=
 fk o&&match o.op with
 |.call {callee:=.value (.func g),.. }=>(E.ctx g).isSome&&I6 E g
 |.call {callee:=.value (.tmp t),.. }=>match(match body.find? (fun x=>x.2.dst==some t)with
  |some (_,p)=>(match p.op with
   |.move y=>bC E f y
   |.assign y=>bC E f y
   |_=>.top)
  |none=>bC E f (.tmp t))with
  |.fn g _=>(E.ctx (wz g)).isSome&&I6 E (wz g)
  |.pv (.fn g _)=>(E.ctx (wz g)).isSome&&I6 E (wz g)
  |.yl _=>false
  |_=>true
 |_=>true
noncomputable def bY(E:Env)(ops:Array Oper)(mode:Nat):(fuel:Nat)→(R:Type)→List (Nat×Bool)→List (Nat×Oper)→Fr→Mem→Log→(Fr→Mem→Option R)→Option R
 |0,_,_,_,_,_,_,_=>none
 |_+1,_,_,[],f,m,_,k=>k f m
 |fuel+1,R,A,(i,o)::rest,f,m,lg,k=>
  match guardOf o A with
  |none=>
   if xt E o then
    match(bif Nat.beq mode 2 then I5 E f m o else none)with
    |some (kl,ft)=>
     if Ch ops o lg ft&&kl.all (fun x=>D7 ops o x.2 lg)&&rest.all (fun x=>reach ops 4 x.2 i)then KS E false (cw E o.dst) o f m fun v f1 m1 _=>bY E ops mode fuel R A rest (jB f1 o.dst v) m1 (ft.map (fun x=>(i,x))++lg) k
     else none
    |none=>KS E (Nat.beq mode 1||Nat.beq mode 2) (cw E o.dst) o f m fun v f1 m1 ft=>
      if Nat.beq mode 2 then(if Ch ops o lg ft then bY E ops mode fuel R A rest (jB f1 o.dst v) m1 ((bif ops.toList.any (isApp E)then(D6 ops o f m m1 v ft).map (fun n=>(i,false,yP n))else[])++(ft.map (fun x=>(i,x))++lg)) k else none)
      else if Nat.beq mode 0 then bY E ops mode fuel R A rest (jB f1 o.dst v) m1 lg k
      else if A3 ft then bY E ops mode fuel R A rest (jB f1 o.dst v) m1 lg k
      else none
   else none
  |some (j,DP)=>
   match((ops[j]?).bind (·.dst))with
   |some tj=>match bC E f (.tmp tj)with
    |.pv (.bool b)=>
     match C0 A ((i,o)::rest)with
     |(body,KU)=>
     if Nat.beq mode 0&& !(body.all fun x=>ZA E f body x.2)then
      (if(body.all fun x=>xt E x.2)&&xr (j,DP) [] body&&((i,o)::rest).all (fun x=> !(x.2.dst==some tj))then
       bif Hv DP b then bY E ops mode fuel R ((j,DP)::A) ((i,o)::rest) (gu f tj (.pv (.bool DP))) m lg k
       else bY E ops mode fuel R A KU (iZ (gu f tj (.pv (.bool !DP))) body) m lg k
      else none)
     else match KU with
     |(_,p)::nr=>
      match p.op with
      |.pick (.tmp c) x y=>
       if Nat.beq c tj&&(guardOf p A).isNone&&body.all (fun x=>fk x.2&&xt E x.2&& !(x.2.dst==some tj))&&xr (j,DP) [] body&&nr.all (fun x=>blind ops body x.2)&&xt E p&& !(Nat.beq mode 2)then
        (match DP with
         |true=>bif b then bY E ops (bif Nat.beq mode 0 then 3 else mode) fuel Bool ((j,DP)::A) body f m lg (fun f _=>zB (bC E f x))else zB (bC E (nq f body) y)
         |false=>bif b then zB (bC E (nq f body) x)else bY E ops (bif Nat.beq mode 0 then 3 else mode) fuel Bool ((j,DP)::A) body f m lg (fun f _=>zB (bC E f y))).bind fun r=>
        bY E ops mode fuel R A nr (jB (nq f body) p.dst (.pv (.bool r))) m lg k
       else none
      |_=>none
     |[]=>none
    |_=>none
   |none=>none
inductive Ex where
 |normal
 |exit (id:Nat)
 |ret
def KV{R:Type}(body:Fr→Mem→(Fr→Mem→Option R)→Option R):Nat→Fr→Mem→Option R
 |0,_,_=>none
 |n+1,f,m=>body f m (KV body n)
def yR:Code→Nat
 |.region id _ _=>id
 |.seq a _=>yR a
 |.cond _ a _=>yR a
 |.block _ b=>yR b
 |.loop b=>yR b
 |.scope b=>yR b
 |_=>0
def PU:List Sh→Type→Type
 |[],T=>T
 |.raw::r,T=>PV×PU r T
 |.int _::r,T=>Int×PU r T
 |.bool::r,T=>Bool×PU r T
 |.str::r,T=>Bytes×PU r T
 |.rs _::r,T=>List PV×PU r T
 |.rp _::r,T=>PV×PU r T
 |.fs _::r,T=>List PV×PU r T
 |.row _ _::r,T=>Int×PU r T
 |.own _::r,T=>PU r T
def Ks:List (Nat×DO)→Type
 |[]=>Unit
 |(_,.box cs)::r=>PU cs (Ks r)
 |(_,.arr _ _)::r=>List PV×Ks r
 |(_,.rD _ _)::r=>List PV×Ks r
 |(_,.map _)::r=>List (PV×PV)×Ks r
 |(_,.nest _ _)::r=>List PV×Ks r
 |(_,.fh _ _)::r=>List (PV×PV)×Ks r
 |(_,.loop)::r=>Ks r
 |(_,.busy)::r=>Ks r
 |(_,.iter _)::r=>List (PV×PV)×Ks r
def Hs.kh(T:Hs):List Sh:=T.bM.map Prod.snd
abbrev Hs.ty(T:Hs):Type:=PU T.kh (Ks T.Ad)
mutual
def V.same:V→V→Bool
 |.op i o,.op j p=>Nat.beq i j&&Nat.beq o p
 |.oe i a o,.oe j b p=>Nat.beq i j&&Nat.beq a b&&Nat.beq o p
 |.os i,.os j=>Nat.beq i j
 |.om i,.om j=>Nat.beq i j
 |.yl i,.yl j=>Nat.beq i j
 |.it i,.it j=>Nat.beq i j
 |.iy,.iy=>true
 |.pv .rQ,.pv .rQ=>true
 |.pv .vq,.pv .vq=>true
 |.pv (.int q x),.pv (.int q' y)=>decide (q=q')&&decide (x=y)
 |.fn f cs,.fn g ds=>Nat.beq f g&&Hw cs ds
 |_,_=>false
def Hw:List V→List V→Bool
 |[],[]=>true
 |a::as,b::bs=>a.same b&&Hw as bs
 |_,_=>false
end
section
variable {R:Type}
def kj{T:Type}:(kh:List Sh)→List V→T→(PU kh T→Option R)→Option R
 |[],[],t,k=>k t
 |.int q::kh,.pv (.int q' n)::vs,t,k=>if q'=q then kj kh vs t (fun r=>k (n,r))else none
 |.raw::kh,.pv p::vs,t,k=>kj kh vs t (fun r=>k (p,r))
 |.bool::kh,.pv (.bool b)::vs,t,k=>kj kh vs t (fun r=>k (b,r))
 |.str::kh,.pv (.str s)::vs,t,k=>kj kh vs t (fun r=>k (s,r))
 |.rs sz::kh,.pv (.rs GW es)::vs,t,k=>if GW=sz then kj kh vs t (fun r=>k (es,r))else none
 |.rp n::kh,.pv (.rp cs)::vs,t,k=>if cs.length=n then kj kh vs t (fun r=>k (.agg cs,r))else none
 |.fs s::kh,.pv p::vs,t,k=>(Zz s p).bind fun ls=>kj kh vs t (fun r=>k (ls,r))
 |.row id off::kh,.xn tl i vz::vs,t,k=>if tl=id∧vz=off then kj kh vs t (fun r=>k ((i:Int),r))else none
 |.own v::kh,u::vs,t,k=>if v.same u then kj kh vs t k else none
 |_,_,_,_=>none
def uI(m:Mem):(bs:List (Nat×DO))→(Ks bs→Option R)→Option R
 |[],k=>k ()
 |(id,.box cs)::r,k=>match m id with
  |some (.box vs)=>uI m r fun t=>kj (T:=Ks r) cs vs t k
  |_=>none
 |(id,.arr sz et)::r,k=>match m id with
  |some (.arr GW GX es)=>if GW=sz∧GX=et then uI m r fun t=>k (es,t)else none
  |_=>none
 |(id,.rD sz et)::r,k=>match m id with
  |some (.rD GW GX es)=>if GW=sz∧GX=et then uI m r fun t=>k (es,t)else none
  |_=>none
 |(id,.map kt)::r,k=>match m id with
  |some (.map xh es)=>if xh=kt then uI m r fun t=>k (es,t)else none
  |_=>none
 |(id,.nest sz et)::r,k=>match m id with
  |some (.nest GW GX es)=>if GW=sz∧GX=et then uI m r fun t=>k (es,t)else none
  |_=>none
 |(id,.fh kt e)::r,k=>match m id with
  |some (.fh xh e' es)=>if xh=kt∧e'=e then uI m r fun t=>k (es,t)else none
  |_=>none
 |(id,.loop)::r,k=>match m id with
  |some (.loop .ready)=>uI m r k
  |_=>none
 |(id,.busy)::r,k=>match m id with
  |some (.loop .busy)=>uI m r k
  |_=>none
 |(id,.iter t)::r,k=>match m id with
  |some (.iter t' es none)=>if t'=t then uI m r fun u=>k (es,u)else none
  |_=>none
def Sh.within(M:List Nat):Sh→Bool
 |.own v=>v.within M
 |.row id _=>M.elem id
 |_=>true
def DO.within(M:List Nat):DO→Bool
 |.box cs=>cs.all (·.within M)
 |_=>true
def Hs.ok(T:Hs):Bool:=T.bM.all (fun x=>x.2.within (T.Ad.map (·.1)))&&T.Ad.all (fun x=>x.2.within (T.Ad.map (·.1)))
def EG:List Sh→List V→Bool
 |[],[]=>true
 |.raw::kh,.pv _::vs=>EG kh vs
 |.int q::kh,.pv (.int q' _)::vs=>decide (q'=q)&&EG kh vs
 |.bool::kh,.pv (.bool _)::vs=>EG kh vs
 |.str::kh,.pv (.str _)::vs=>EG kh vs
 |.rs sz::kh,.pv (.rs GW _)::vs=>Nat.beq GW sz&&EG kh vs
 |.rp n::kh,.pv (.rp cs)::vs=>Nat.beq cs.length n&&EG kh vs
 |.fs s::kh,.pv p::vs=>(Zz s p).isSome&&EG kh vs
 |.row id off::kh,.xn tl _ vz::vs=>Nat.beq tl id&&Nat.beq vz off&&EG kh vs
 |.own v::kh,u::vs=>v.same u&&EG kh vs
 |_,_=>false
def G1(m:Mem):List (Nat×DO)→Bool
 |[]=>true
 |(id,.box cs)::r=>(match m id with|some (.box vs)=>EG cs vs|_=>false)&&G1 m r
 |(id,.arr sz _)::r=>(match m id with|some (.arr GW _ _)=>Nat.beq GW sz|_=>false)&&G1 m r
 |(id,.rD sz _)::r=>(match m id with|some (.rD GW _ _)=>Nat.beq GW sz|_=>false)&&G1 m r
 |(id,.map _)::r=>(match m id with|some (.map _ _)=>true|_=>false)&&G1 m r
 |(id,.nest sz _)::r=>(match m id with|some (.nest GW _ _)=>Nat.beq GW sz|_=>false)&&G1 m r
 |(id,.fh _ _)::r=>(match m id with|some (.fh _ _ _)=>true|_=>false)&&G1 m r
 |(id,.loop)::r=>(match m id with|some (.loop .ready)=>true|_=>false)&&G1 m r
 |(id,.busy)::r=>(match m id with|some (.loop .busy)=>true|_=>false)&&G1 m r
 |(id,.iter _)::r=>(match m id with|some (.iter _ _ none)=>true|_=>false)&&G1 m r
def fits(f:Fr)(m:Mem)(T:Hs):Bool:=G1 m T.Ad&&EG T.kh (T.bM.map fun(x:Nat×Sh)=>f x.1)
def enc(T:Hs)(f:Fr)(m:Mem)(k:T.ty→Option R):Option R:=if T.ok then uI m T.Ad fun t=>kj (T:=Ks T.Ad) T.kh (T.bM.map fun(x:Nat×Sh)=>f x.1) t k else none
end
def tn{T:Type}:(kh:List Sh)→PU kh T→List V×T
 |[],t=>([],t)
 |.int q::kh,x=>let r:=tn kh x.2;(.pv (.int q x.1)::r.1,r.2)
 |.raw::kh,x=>let r:=tn kh x.2;(.pv x.1::r.1,r.2)
 |.bool::kh,x=>let r:=tn kh x.2;(.pv (.bool x.1)::r.1,r.2)
 |.str::kh,x=>let r:=tn kh x.2;(.pv (.str x.1)::r.1,r.2)
 |.rs sz::kh,x=>let r:=tn kh x.2;(.pv (.rs sz x.1)::r.1,r.2)
 |.rp n::kh,x=>let r:=tn kh x.2;(.pv (.rp (aC n x.1))::r.1,r.2)
 |.fs s::kh,x=>let r:=tn kh x.2;(.pv (I0 s ((List.range s.n).map fun j=>x.1.getD j .bad)).1::r.1,r.2)
 |.row id off::kh,x=>let r:=tn kh x.2;(.xn id x.1.toNat off::r.1,r.2)
 |.own v::kh,x=>let r:=tn (T:=T) kh x;(v::r.1,r.2)
def dJ:(bs:List (Nat×DO))→Ks bs→List (Nat×Option bH)
 |[],_=>[]
 |(id,.box cs)::r,x=>let y:=tn (T:=Ks r) cs x;(id,some (.box y.1))::dJ r y.2
 |(id,.arr sz et)::r,x=>(id,some (.arr sz et x.1))::dJ r x.2
 |(id,.rD sz et)::r,x=>(id,some (.rD sz et x.1))::dJ r x.2
 |(id,.map kt)::r,x=>(id,some (.map kt x.1))::dJ r x.2
 |(id,.nest sz et)::r,x=>(id,some (.nest sz et x.1))::dJ r x.2
 |(id,.fh kt e)::r,x=>(id,some (.fh kt e x.1))::dJ r x.2
 |(id,.loop)::r,x=>(id,some (.loop .ready))::dJ (r:List (Nat×DO)) x
 |(id,.busy)::r,x=>(id,some (.loop .busy))::dJ (r:List (Nat×DO)) x
 |(id,.iter t)::r,x=>(id,some (.iter t x.1 none))::dJ r x.2
def rW:List (Nat×Sh)→List V→List (Nat×V)
 |(t,_)::r,v::vs=>(t,v)::rW r vs
 |_,_=>[]
def Nt(T:Hs)(x:T.ty):Fr:=Nl (rW T.bM (tn (T:=Ks T.Ad) T.kh x).1)
def EH(T:Hs)(x:T.ty):Mem:=Et (dJ T.Ad (tn (T:=Ks T.Ad) T.kh x).2)
def C1{A:Type}:List (Nat×Nat)→Fr→Mem→(Fr→Mem→A)→A
 |[],f,m,k=>k f m
 |(t,sz)::r,f,m,k=>match f t with
  |.os id=>match m id with
   |some (.arr s et es)=>C1 r (gu f t (.pv (.rs s es))) (ao m id (.rD s et es)) k
   |some (.rD s _ es)=>C1 r (gu f t (.pv (.rs s es))) m k
   |_=>C1 r f m k
  |.iy=>C1 r (gu f t (.pv (.rs sz []))) m k
  |_=>C1 r f m k
def Hx{A:Type}:List (Nat×Nat×Nat)→Mem→(Mem→A)→A
 |[],m,k=>k m
 |(id,j,sz)::r,m,k=>match m id with
  |some (.box cs)=>match cs[j]? with
   |some .iy=>Hx r (ao m id (.box (cs.set j (.pv (.rs sz []))))) k
   |_=>Hx r m k
  |_=>Hx r m k
def C2{A:Type}(P:Program):List (Nat×Nat×Nat×TypeId)→Mem→(Mem→A)→A
 |[],m,k=>k m
 |(id,j,UM,et)::r,m,k=>match m id with
  |some (.box cs)=>match cs[j]? with
   |some .iy=>match m UM with
    |none=>if 0<aN P et then C2 P r (ao (ao m UM (.arr (aN P et) et [])) id (.box (cs.set j (.os UM)))) k else C2 P r m k
    |some _=>C2 P r m k
   |_=>C2 P r m k
  |_=>C2 P r m k
def KW{A:Type}:List Nat→Mem→(Mem→A)→A
 |[],m,k=>k m
 |id::r,m,k=>match m id with
  |some (.arr s et es)=>KW r (ao m id (.nest s et es)) k
  |_=>KW r m k
def C3{A:Type}:List (Nat×Nat)→Fr→Mem→(Fr→Mem→A)→A
 |[],f,m,k=>k f m
 |(id,j)::r,f,m,k=>match m id with
  |some (.box cs)=>match cs[j]? with
   |some (.fR a 0 len)=>match m a with
    |some (.arr s et es)=>if Nat.beq a id then C3 r f m k else C3 r (eS a f) (ao (ao (bh (bE a m) a) a (.arr s et (es.take len))) id (.box ((cs.map (tz a)).set j (.os a)))) k
    |_=>C3 r f m k
   |_=>C3 r f m k
  |_=>C3 r f m k
def Hy{A:Type}(P:Program)(T:Hs)(f:Fr)(m:Mem)(k:Fr→Mem→A):A:=C3 T.ct f m fun f m=>C2 P T.bo m fun m=>Hx T.bz m fun m=>KW T.nz m fun m=>C1 T.fz f m k
variable{R:Type}
def Ex.KX(k1:Fr→Mem→Option R)(k:Ex→Fr→Mem→Option R):Ex→Fr→Mem→Option R
 |.normal,f,m=>k1 f m
 |e,f,m=>k e f m
def Ex.UN(id:Nat)(k:Ex→Fr→Mem→Option R):Ex→Fr→Mem→Option R
 |.exit j,f,m=>if j=id then k .normal f m else k (.exit j) f m
 |e,f,m=>k e f m
def Ex.jmp:Ex→Option Jmp
 |.normal=>none
 |.exit id=>some (.exit id)
 |.ret=>some .ret
def Jmp.ex:Jmp→Ex
 |.ret=>.ret
 |.exit id=>.exit id
def PW(n:Nat)(g f:Fr):Fr:=fun t=>bif Nat.blt t n then g t else f (t-n)
def EI:List Nat→List V→Fr→Fr
 |p::ps,v::vs,f=>EI ps vs (gu f p v)
 |_,_,f=>f
def roundOf(as b:Fr→Mem→(Ex→Fr→Mem→Option R)→Option R)(lid n:Nat)(ps:List Nat)(nt:Nat)(args:List V)(F:Fr)(m:Mem)(k:V→Fr→Mem→Option R):Option R:=
 match m lid with
 |some (.loop .ready)=>if args.length=ps.length then
  as (PW n (EI ps args (xq nt F)) F) m fun e f m=>match e,m lid with
   |.normal,some (.loop .ready)=>b f (ao m lid (.loop .busy)) fun e f m=>match m lid with
    |some (.loop .busy)=>match e.jmp with
     |none=>k (.pv (.bool true)) (xq n f) (ao m lid (.loop .ready))
     |some j=>k (.pv (.bool false)) (xq n f) (ao m lid (.loop (.done j)))
    |_=>none
   |_,_=>none
  else none
 |_=>none
def acJ:V→Option (FuncId×List V)
 |.fn g caps=>bif Nat.blt g Eu then some (g,caps)else none
 |.pv (.fn g caps)=>bif Nat.blt g Eu then some (g,caps.map .pv)else none
 |_=>none
def aeL(E:Env)(o:Oper):Bool:=match o.op with
 |.call c=>match c.callee with
  |.value (.func g)=>(E.ctx g).isNone&&(E.own g).isNone
  |_=>false
 |_=>false
def aeM(E:Env)(o:Oper):Bool:=match o.op with
 |.call c=>match c.callee with
  |.value (.func g)=>(E.ctx g).isNone&&(E.own g).isSome
  |_=>false
 |_=>false
def ZB(E:Env)(ops:Array Oper):Option Nat:=ops.toList.findIdx? (aeL E)
def UO(ops:Array Oper)(p:Nat):Bool:=match ops[p]? with
 |none=>false
 |some o=>o.guard.isNone&&o.after.toList.all (fun e=> !(Region.binds .any e)||Nat.blt e.on p)&&((List.range ops.size).zip ops.toList).all fun x=>bif Nat.blt x.1 p then reach ops 8 o x.1 else Nat.beq x.1 p||reach ops 8 x.2 p
def I7(E:Env)(ops:Array Oper)(x:Nat×Oper):Bool:=((List.range ops.size).zip ops.toList).any fun y=>isApp E y.2&&(Nat.beq x.1 y.1||reach ops 4 x.2 y.1)
def A4(E:Env)(ops:Array Oper):List (Nat×Oper):=
 bif E.B9 (2000000000000000000000000000000+E.fid)then((List.range ops.size).zip ops.toList).filter (fun x=> !I7 E ops x)++((List.range ops.size).zip ops.toList).filter (I7 E ops)
 else(List.range ops.size).zip ops.toList
noncomputable def fI:(E:Env)→{R:Type}→Code→Fr→Mem→(Ex→Fr→Mem→Option R)→Option R
 |E,_,.skip,f,m,k=>k .normal f m
 |E,R,.region _ ops draw,f,m,k=>
  if draw then
   match ZB E ops with
   |some p=>if UO ops p&&pt ops [] (((List.range ops.size).zip ops.toList).take p)&&pt ops [] (((List.range ops.size).zip ops.toList).drop (p+1))then
     bY E ops 2 (ops.size+1) R [] (((List.range ops.size).zip ops.toList).take p) f m [] fun f m=>
     bY E ops 0 3 R [] ((((List.range ops.size).zip ops.toList).drop p).take 1) f m [] fun f m=>
     bY E ops 2 (ops.size+1) R [] (((List.range ops.size).zip ops.toList).drop (p+1)) f m [] fun f m=>k .normal f m
    else none
   |none=>
   (if pt ops [] (A4 E ops)then
    (if ops.toList.all (fun o=>fk o&& !aeM E o)then bY E ops 1 (ops.size+1) R [] (A4 E ops) f m [] fun f m=>k .normal f m
    else bY E ops 2 (ops.size+1) R [] (A4 E ops) f m [] fun f m=>k .normal f m)
   else none)
  else bY E ops 0 (ops.size+ops.size+1) R [] ((List.range ops.size).zip ops.toList) f m [] fun f m=>k .normal f m
 |E,R,.seq a b,f,m,k=>fI E a f m (Ex.KX (fun f m=>fI E b f m k) k)
 |E,R,.cond c a b,f,m,k=>match c,bC E f c with
  |.tmp x,.pv (.bool t)=>if t then fI E a (gu f x (.pv (.bool true))) m k else fI E b (gu f x (.pv (.bool false))) m k
  |_,_=>none
 |E,R,.block id b,f,m,k=>fI E b f m (Ex.UN id k)
 |E,R,.loop b,f,m,k=>match(E.hint E.fid (yR b)).find? (fun T=>Hy E.P T f m fun f m=>fits f m T)with
  |some T=>Hy E.P T f m fun f m=>enc T f m (E.lp.run fun s rec=>fI E b (Nt T s) (EH T s) (Ex.KX (fun f m=>Hy E.P T f m fun f m=>enc T f m rec) k))
  |none=>KV (fun f m rec=>fI E b f m (Ex.KX rec k)) E.u f m
 |E,R,.exit id,f,m,k=>k (.exit id) f m
 |E,R,.ret,f,m,k=>k .ret f m
 |E,R,.label _,f,m,k=>k .normal f m
 |E,R,.scope b,f,m,k=>fI E b f m k
 |E,R,.rangeFunc g ps as b,f,m,k=>if E.rdb then none else match ps.toList with
  |p0::_=>fresh true (cw E (some p0)) (.loop .ready) f m fun f m _=>match acJ (bC E f g)with
   |some (gid,caps)=>E.rng R gid (cw E (some p0)*4096+gid) (fun _ nt site id args F m k=>bif Nat.beq id (cw E (some p0))then
     roundOf (fI {E with fid:=site*4096+E.fid%4096,yl:=B8,rdb:=true} as) (fI {E with fid:=site*4096+E.fid%4096,yl:=B8,rdb:=true} b) (cw E (some p0)) E.fn.ntmps ps.toList nt args F m k
     else none)
    (.yl (cw E (some p0))::caps) f m fun _ f m=>match m (cw E (some p0))with
     |some (.loop .ready)=>k .normal (eS (cw E (some p0)) f) (bh (bE (cw E (some p0)) m) (cw E (some p0)))
     |some (.loop (.done j))=>k j.ex (eS (cw E (some p0)) f) (bh (bE (cw E (some p0)) m) (cw E (some p0)))
     |_=>none
   |_=>none
  |[]=>none
 |_,_,_,_,_,_=>none
def A5(E:Env){R:Type}(f:Fr)(m:Mem):List ResultVar→(List V→Option R)→Option R
 |[],k=>k []
 |.tmp t::rs,k=>A5 E f m rs fun vs=>k (bC E f (.tmp t)::vs)
 |.cell a t::rs,k=>qL E false t (bC E f (.tmp a)) m fun v _=>A5 E f m rs fun vs=>k (v::vs)
def UP(E:Env)(rs:List ResultVar)(f:Fr)(m:Mem):Option PV:=A5 E f m rs fun vs=>match vs with
  |[v]=>lF m eE v
  |vs=>(qT (lF m eE) vs).bind fun ps=>some (.aO ps)
section
variable {R:Type} (E:Env)
def I8(t:TypeId)(p:PV)(k:PV→Option R):Option R:=
 match E.P.underlying t with
 |some (.int _)=>iB E t p k
 |some .bool=>iB E t p k
 |some .string=>iB E t p k
 |some (.slice _)=>iB E t p k
 |some (.map _ _)=>iB E t p k
 |_=>k p
def qU:List TypeId→List PV→(List PV→Option R)→Option R
 |t::ts,p::ps,k=>I8 E t p fun q=>qU ts ps fun qs=>k (q::qs)
 |_,ps,k=>k ps
def D8(n:Nat)(p:PV)(a:Option R)(b:PV→Option R):Option R:=
 match p with
 |.rQ=>a
 |.rp cs=>if n≤cs.length then b (.agg cs)else none
 |_=>none
def UQ(t:TypeId)(p:PV)(k:PV→Option R):Option R:=
 match E.P.underlying t with
 |some (.struct _)=>(asAgg (aN E.P t) p).bind fun _=>match ED E.P 8 t with
  |some ts=>qU E ts (aC (aN E.P t) p) fun cs=>k (.agg cs)
  |none=>none
 |some (.array _ _)=>(asAgg (aN E.P t) p).bind fun _=>match ED E.P 8 t with
  |some ts=>qU E ts (aC (aN E.P t) p) fun cs=>k (.agg cs)
  |none=>none
 |some (.pointer e)=>D8 (aN E.P e) p (k .rQ) fun q=>match ED E.P 8 e with
  |some ts=>qU E ts (aC (aN E.P e) q) fun cs=>k (.rp cs)
  |none=>none
 |_=>I8 E t p k
def Ag:List TypeId→List PV→(List PV→Option R)→Option R
 |t::ts,p::ps,k=>UQ E t p fun q=>Ag ts ps fun qs=>k (q::qs)
 |_,ps,k=>k ps
end
def EJ(args:List V):Fr:=fun t=>args.getD t .top
noncomputable def D9(E:Env)(args:List V)(f:Fr)(m:Mem)(k:V→Fr→Mem→Option R):Option R:=
 match E.fn.body with
 |some c=>if args.length≤E.fn.ntmps then fI E c (wy E.fn.ntmps args f) m (fun e f m=>match e with
  |.exit _=>none
  |_=>A5 E f m E.fn.results.toList fun vs=>match vs with
   |[v]=>k v (xq E.fn.ntmps f) m
   |vs=>k (.aO vs) (xq E.fn.ntmps f) m)else none
 |none=>none
def acK(E:Env)(f:Fr)(m:Mem):Option PV:=
 match E.fn.resultTypes.toList with
 |[t]=>match E.P.underlying t with
  |some (.slice e)=>A5 E f m E.fn.results.toList fun vs=>match vs with
   |[.os id]=>match m id with
    |some (.arr sz et es)=>if sz=aN E.P e∧et=e then some (.rs sz es)else none
    |_=>none
   |[.fR id 0 len]=>match m id with
    |some (.arr sz et es)=>if sz=aN E.P e∧et=e then some (.rs sz (es.take len))else none
    |_=>none
   |_=>none
  |_=>none
 |_=>none
noncomputable def I9(E:Env)(args:List PV):Option PV:=
 match E.fn.body with
 |some c=>if args.length≤E.fn.ntmps then Ag E E.fn.params.toList args fun vs=>fI E c (EJ (vs.map .pv)) (fun _=>none) (fun e f m=>match e with
  |.exit _=>none
  |_=>acK E f m)else none
 |none=>none
noncomputable def ei(E:Env)(args:List PV):Option PV:=
 match E.fn.body with
 |some c=>if args.length≤E.fn.ntmps then Ag E E.fn.params.toList args fun vs=>fI E c (EJ (vs.map .pv)) (fun _=>none) (fun e f m=>match e with
  |.normal=>UP E E.fn.results.toList f m
  |.ret=>UP E E.fn.results.toList f m
  |.exit _=>none)else none
 |none=>none
end Go.Ab
