import Derived.Test.YtoaknfoobjnjgaaGreatAbDefs
import Derived.Deep.Quiet
set_option linter.all false
namespace Go.Ab
inductive FS where
 |raw
 |fn (g:FuncId) (caps:List FS)
 |ptr (cells:List FS)
mutual
def rdL:FS→PV→Option (List PV)
 |.raw,p=>some [p]
 |.fn g cs,.fn g' qs=>if g'=g then OI cs qs else none
 |.ptr cs,.rp qs=>OI cs qs
 |_,_=>none
def OI:List FS→List PV→Option (List PV)
 |[],[]=>some []
 |s::ss,p::ps=>(rdL s p).bind fun a=>(OI ss ps).bind fun b=>some (a++b)
 |_,_=>none
end
mutual
def ML:FS→List PV→PV×List PV
 |.raw,[]=>(.bad,[])
 |.raw,p::r=>(p,r)
 |.fn g cs,l=>(.fn g (GI cs l).1,(GI cs l).2)
 |.ptr cs,l=>(.rp (GI cs l).1,(GI cs l).2)
def GI:List FS→List PV→List PV×List PV
 |[],l=>([],l)
 |s::ss,l=>((ML s l).1::(GI ss (ML s l).2).1,(GI ss (ML s l).2).2)
end
mutual
def FS.n:FS→Nat
 |.raw=>1
 |.fn _ cs=>nFs cs
 |.ptr cs=>nFs cs
def nFs:List FS→Nat
 |[]=>0
 |s::ss=>s.n+nFs ss
end
inductive Sh where
 |raw
 |int (q:IntKind)
 |bool
 |str
 |rs (sz:Nat)
 |rp (n:Nat)
 |fs (s:FS)
 |row (id off:Nat)
 |own (v:V)
inductive FB where
 |box (cs:List Sh)
 |arr (sz:Nat) (et:TypeId)
 |sq (sz:Nat) (et:TypeId)
 |map (kt:TypeId)
 |nest (sz:Nat) (et:TypeId)
 |fG (kt e:TypeId)
 |loop
 |busy
 |iter (t:TypeId)
structure Lf where
 bV:List (Nat×Sh)
 Dh:List (Nat×FB)
 fz:List (Nat×Nat):=[]
 bz:List (Nat×Nat×Nat):=[]
 bo:List (Nat×Nat×Nat×TypeId):=[]
 nz:List Nat:=[]
 ct:List (Nat×Nat):=[]
structure aX where
 run:{S R:Type}→(S→(S→Option R)→Option R)→S→Option R
 room:Nat→Bool
 yQ:∀n,room n=true→(n:Int)≤IntKind.i64.max
def dH{S R:Type}(body:S→(S→Option R)→Option R):Nat→S→Option R
 |0,_=>none
 |n+1,s=>body s (dH body n)
abbrev YL:=(R:Type)→Nat→Nat→Nat→List V→Fr→Mem→(V→Fr→Mem→Option R)→Option R
def Di:YL:=fun _ _ _ _ _ _ _ _=>none
structure Env where
 P:Program
 ctx:FuncId→Option (List PV→Option PV)
 az:Nat→Option (List PV)
 fid:FuncId
 fn:Func
 lp:aX
 hint:Nat→Nat→List Lf
 u:Nat
 own:FuncId→Option (List PV→Option PV)
 inl:(R:Type)→FuncId→Nat→List V→Fr→Mem→(V→Fr→Mem→Option R)→Option R
 rng:(R:Type)→FuncId→Nat→YL→List V→Fr→Mem→(V→Fr→Mem→Option R)→Option R
 yl:YL
 rdb:Bool:=false
 fnr:FuncId→Option FS:=fun _=>none
 Fs:Nat→Bool:=fun _=>false
section
variable {R:Type} (E:Env)
def cJ(kt:TypeId)(p:PV)(a:Option R)(b:List PV→List PV→Option R):Option R:=
 match p with
 |.od=>a
 |.rm AG ks vs=>if AG=kt then b ks vs else none
 |_=>none
def dp(n:Nat)(p:PV)(a:Option R)(b:PV→Option R):Option R:=
 match p with
 |.ig=>a
 |.rp cs=>if n≤cs.length then b (.agg cs)else none
 |_=>none
def ij(t:TypeId)(p:PV)(k:PV→Option R):Option R:=
 match E.P.underlying t with
 |some (.int q)=>(asInt q p).bind fun n=>k (.int q n)
 |some .bool=>(asBool p).bind fun b=>k (.bool b)
 |some .string=>(aZ p).bind fun s=>k (.str s)
 |some (.slice e)=>(ah (aS E.P e) p).bind fun es=>k (.rs (aS E.P e) es)
 |some (.struct _)=>(asAgg (aS E.P t) p).bind fun _=>k (.agg (aK (aS E.P t) p))
 |some (.array _ _)=>(asAgg (aS E.P t) p).bind fun _=>k (.agg (aK (aS E.P t) p))
 |some (.pointer e)=>dp (aS E.P e) p (k .ig) fun q=>k (.rp (aK (aS E.P e) q))
 |some (.map kt _)=>cJ kt p (k .od) fun ks vs=>k (.rm kt ks vs)
 |some (.func _ _ _)=>match p with
  |.CJ=>k .CJ
  |.fn g cs=>k (.fn g cs)
  |_=>none
 |some (.interface _)=>(TN p).bind fun b=>k (.Wm b)
 |_=>none
def Ei(t:TypeId)(v:V)(k:V→Option R):Option R:=
 match v with
 |.pv p=>ij E t p fun p=>k (.pv p)
 |.top=>none
 |v=>if(E.P.underlying t).isSome then k v else none
def GJ:List TypeId→List PV→(List V→Option R)→Option R
 |[],[],k=>k []
 |t::ts,p::ps,k=>ij E t p fun q=>GJ ts ps fun vs=>k (.pv q::vs)
 |_,_,_=>none
def GK(ts:List TypeId)(r:PV)(k:V→Option R):Option R:=
 match ts with
 |[]=>(bN 0 r).bind fun _=>k (.aI [])
 |[t]=>ij E t r fun q=>k (.pv q)
 |ts=>(bN ts.length r).bind fun vs=>GJ E ts ((List.range ts.length).map fun j=>vs.getD j .bad) fun us=>k (.aI us)
def FC(fid:FuncId)(ts:List TypeId)(r:PV)(k:V→Option R):Option R:=
 match E.fnr fid with
 |some s=>(rdL s r).bind fun ls=>k (.pv (ML s ((List.range s.n).map fun j=>ls.getD j .bad)).1)
 |none=>GK E ts r k
def bJ(f:Fr):Operand→V
 |.tmp t=>bif Nat.blt t E.fn.ntmps then f t else .top
 |.const c=>Le c
 |.global g=>match E.az g with|some cs=>.pv (.rp cs)|none=>.top
 |.func f=>bif Nat.blt f Ic then .fn f []else .top
def fresh(draw:Bool)(site:Nat)(b:bL)(f:Fr)(m:Mem)(k:Fr→Mem→bB→Option R):Option R:=
 match m site with
 |none=>k f (aw m site b) [(true,site)]
 |some _=>if draw||b.names site then none else k (eP site f) (aw (bK site m) site b) [(true,site)]
def ug:V→Option (List V)
 |.pv (.agg cs)=>some (cs.map .pv)
 |.agg cs=>some cs
 |_=>none
def cY:Mem:=fun _=>none
def oh(op:BinOp)(t:TypeId)(a b:V)(k:PV→Option R):Option R:=
 match a,b with
 |.pv (.int q x),.pv (.int q' y)=>match op with
  |.shl=>if y<0 then none else k (.int q (q.wrap (x*2^(min y.toNat q.bits))))
  |.shr=>if y<0 then none else k (.int q (x.fdiv (2^(min y.toNat q.bits))))
  |op=>if q=q' then match op with
   |.add=>k (.int q (q.wrap (x+y)))
   |.sub=>k (.int q (q.wrap (x-y)))
   |.mul=>k (.int q (q.wrap (x*y)))
   |.quo=>if y=0 then none else k (.int q (q.wrap (x.tdiv y)))
   |.rem=>if y=0 then none else k (.int q (x.tmod y))
   |.and=>k (.int q (q.wrap (BitVec.ofInt q.bits x&&&BitVec.ofInt q.bits y).toNat))
   |.or=>k (.int q (q.wrap (BitVec.ofInt q.bits x|||BitVec.ofInt q.bits y).toNat))
   |.xor=>k (.int q (q.wrap (BitVec.ofInt q.bits x^^^BitVec.ofInt q.bits y).toNat))
   |.andNot=>k (.int q (q.wrap (BitVec.ofInt q.bits x&&& ~~~(BitVec.ofInt q.bits y)).toNat))
   |.eql=>k (.bool (x==y))
   |.neq=>k (.bool (x !=y))
   |.lss=>k (.bool (decide (x<y)))
   |.leq=>k (.bool (decide (x≤y)))
   |.gtr=>k (.bool (decide (x>y)))
   |.geq=>k (.bool (decide (x≥y)))
   |_=>none
   else none
 |.pv (.str x),.pv (.str y)=>match op with
  |.add=>if E.lp.room (x.length+y.length)=true then k (.str (x++y))else none
  |.eql=>k (.bool (x==y))
  |.neq=>k (.bool (!(x==y)))
  |.lss=>k (.bool (Op.bytesLess x y))
  |.leq=>k (.bool (Op.bytesLess x y||x==y))
  |.gtr=>k (.bool (!(Op.bytesLess x y||x==y)))
  |.geq=>k (.bool (!(Op.bytesLess x y)))
  |_=>none
 |.pv (.bool x),.pv (.bool y)=>match op,E.P.underlying t with
  |.eql,some .bool=>k (.bool (x==y))
  |.neq,some .bool=>k (.bool (!(x==y)))
  |_,_=>none
 |.pv .ig,.pv .ig=>match op,E.P.underlying t with
  |.eql,some (.pointer _)=>k (.bool true)
  |.neq,some (.pointer _)=>k (.bool false)
  |_,_=>none
 |.fn _ _,.pv .CJ|.pv (.fn _ _),.pv .CJ=>match op,E.P.underlying t with
  |.eql,some (.func _ _ _)=>k (.bool false)
  |.neq,some (.func _ _ _)=>k (.bool true)
  |_,_=>none
 |.pv (.rp _),.pv .ig|.op _ _,.pv .ig|.oe _ _ _,.pv .ig=>match op,E.P.underlying t with
  |.eql,some (.pointer _)=>k (.bool false)
  |.neq,some (.pointer _)=>k (.bool true)
  |_,_=>none
 |a,b=>if aG E.P t then match vS E.P t,ug a,ug b with
  |some ks,some as,some bs=>match sr (l0 cY 1) as,sr (l0 cY 1) bs with
   |some as,some bs=>if jo ks as=true∧jo ks bs=true then match op with
    |.eql=>k (.bool (bO as bs))
    |.neq=>k (.bool (!(bO as bs)))
    |_=>none
    else none
   |_,_=>none
  |_,_,_=>none
  else none
def Ig:Operand→Bool
 |.const .nilIface=>true
 |_=>false
def YU(op:BinOp)(t:TypeId)(a:V)(k:PV→Option R):Option R:=
 match a with
 |.pv (.Wm b)=>match op,E.P.underlying t with
  |.eql,some (.interface _)=>k (.bool (!b))
  |.neq,some (.interface _)=>k (.bool b)
  |_,_=>none
 |_=>none
def OJ(op:BinOp)(t:TypeId)(y:Operand)(a b:V)(k:PV→Option R):Option R:=bif Ig y then YU E op t a k else oh E op t a b k
noncomputable def agree(a b:Option R):Option R:= @ite _ (a=b) (Classical.propDecidable _) a none
noncomputable def Rn(op:BinOp)(t:TypeId)(es:List PV)(k:Bool→Option R):Option R:=
 match op,E.P.underlying t with
 |.eql,some (.slice _)=>if es.isEmpty=true then agree (k true) (k false)else k false
 |.neq,some (.slice _)=>if es.isEmpty=true then agree (k false) (k true)else k true
 |_,_=>none
def xun(op:UnOp)(a:V)(k:PV→Option R):Option R:=
 match op,a with
 |.not,.pv (.bool b)=>k (.bool !b)
 |.neg,.pv (.int q n)=>k (.int q (q.wrap (0-n)))
 |.xor,.pv (.int q n)=>k (.int q (q.wrap (BitVec.ofInt q.bits (if q.signed then-1 else q.max)^^^BitVec.ofInt q.bits n).toNat))
 |_,_=>none
def Ih(s d:TypeId)(a:V)(k:PV→Option R):Option R:=
 match E.P.underlying s,E.P.underlying d,a with
 |some (.int q),some (.int q'),.pv (.int q'' n)=>if q''=q then(if q'=q then k (.int q n)else k (.int q' (q'.wrap n)))else none
 |some .string,some .string,.pv (.str s)=>k (.str s)
 |_,_,_=>none
def wO(s:Nat)(t:TypeId)(e:PV)(off:Nat)(k:V→Option R):Option R:=
 if aG E.P t then(if off+aS E.P t≤s then k (.pv (.agg (((aK s e).drop off).take (aS E.P t))))else none)
 else match(aK s e)[off]? with
  |some p=>ij E t p fun p=>k (.pv p)
  |none=>none
def TO:V→Option PV
 |.pv p=>some p
 |_=>none
def YV(cs:List V):V:=match sr TO cs with
 |some ps=>.pv (.agg ps)
 |none=>.agg cs
def FD(t:TypeId)(s i off:Nat):Bool:=match E.P.underlying t with
 |some (.array _ e)=>Nat.beq (aS E.P e) s&&aG E.P e&&Nat.beq i 0&&Nat.beq off 0
 |_=>false
def s9(own:Bool)(t:TypeId)(a:V)(m:Mem)(k:V→bB→Option R):Option R:=
 match a with
 |.pv (.rp cs)=>
  if aG E.P t then(if aS E.P t≤cs.length then k (.pv (.agg (cs.take (aS E.P t)))) []else none)
  else(cs.head?).bind fun p=>ij E t p fun p=>k (.pv p) []
 |.op id off=>match m id with
  |some (.box cs)=>
   if aG E.P t then(if off+aS E.P t≤cs.length then k (YV ((cs.drop off).take (aS E.P t))) [(false,id)]else none)
   else match sr TO cs with
    |some ps=>(ps[off]?).bind fun p=>ij E t p fun p=>k (.pv p) [(false,id)]
    |none=>match cs[off]? with
     |some v=>Ei E t v fun v=>k v [(false,id)]
     |none=>none
  |_=>none
 |.oe id i off=>match m id with
  |some (.arr s _ es)=>bif FD E t s i off then(if es.length*s=aS E.P t then k (.pv (.agg (Eg s es))) [(false,id)]else none)else(es[i]?).bind fun e=>wO E s t e off fun v=>k v [(false,id)]
  |some (.sq s _ es)=>(es[i]?).bind fun e=>wO E s t e off fun v=>k v [(false,id)]
  |some (.nest _ _ es)=>if aG E.P t then none else(es[i]?).bind fun e=>
   if own then(match E.P.underlying t with
    |some (.slice et)=>(dQ (aS E.P et) (cell e off)).bind fun _=>k (.AJ id i off) [(false,id)]
    |_=>none)
   else ij E t (cell e off) fun p=>k (.pv p) [(false,id)]
  |_=>none
 |.Ef id i off s j off2=>match m id with
  |some (.nest _ _ es)=>(es[i]?).bind fun e=>(dQ s (cell e off)).bind fun rs=>(rs[j]?).bind fun q=>wO E s t q off2 fun v=>k v [(false,id)]
  |_=>none
 |_=>none
def over{T:Type}:List T→List T→List T
 |[],cs=>cs
 |x::new,[]=>x::over new []
 |x::new,_::cs=>x::over new cs
def bQ{T:Type}:List T→Nat→List T→List T
 |cs,0,new=>over new cs
 |[],_+1,new=>new
 |c::cs,off+1,new=>c::bQ cs off new
theorem MM{T:Type}:∀(new cs:List T),over new cs=new++cs.drop new.length
 |[],cs=>by rfl
 |x::new,[]=>by simp[over,MM new []]
 |x::new,_::cs=>by simp[over,MM new cs]
theorem ea{T:Type}:∀(cs:List T)(off:Nat)(new:List T),bQ cs off new=cs.take off++new++cs.drop (off+new.length)
 |cs,0,new=>by cases cs<;>simp[bQ,MM]
 |[],_+1,new=>by simp[bQ]
 |c::cs,off+1,new=>by rw[bQ,ea cs off new,show off+1+new.length=(off+new.length)+1 by omega];simp
def AK(draw:Bool)(m:Mem)(n:Nat)(agg:Bool)(v:V):Option (PV×Mem):=if draw then(match k9 cY n agg v with|some (p,_)=>some (p,m)|none=>none)else k9 m n agg v
def setRow(s:Nat)(e:PV)(off:Nat)(p:PV):PV:=if s=1 then p else .agg ((aK s e).set off p)
def setCells(s:Nat)(e:PV)(off n:Nat)(p:PV):PV:=if off=0∧n=s then p else .agg (bQ (aK s e) off p.cells)
def Rp(t:TypeId)(i off:Nat)(b:Option bL)(x:V):Option (Nat×TypeId×Nat×PV):=match b,x with
 |some (.arr s et es),.pv p=>bif FD E t s i off then some (s,et,es.length,p)else none
 |_,_=>none
def wP(draw:Bool)(t:TypeId)(a x:V)(m:Mem)(k:Mem→bB→Option R):Option R:=
 match a with
 |.op id off=>match m id with
  |some (.box cs)=>match toCells (aS E.P t) x with
   |some new=>if off+aS E.P t≤cs.length∧0<aS E.P t then k (aw m id (.box (bQ cs off new))) [(true,id)]else none
   |none=>none
  |_=>none
 |.oe id i off=>match Rp E t i off (m id) x with
  |some (s,et,n,p)=>(asAgg (aS E.P t) p).bind fun _=>if n*s=aS E.P t∧0<aS E.P t then k (aw m id (.arr s et (qB s n p))) [(true,id)]else none
  |none=>match AK draw m (aS E.P t) (aG E.P t) x with
  |some (p,m)=>match m id with
   |some (.arr s et es)=>(es[i]?).bind fun e=>
    if off=0∧aS E.P t=s∧0<s then k (aw m id (.arr s et (es.set i p))) [(true,id)]
    else if off+aS E.P t≤s∧0<aS E.P t∧1<s then k (aw m id (.arr s et (es.set i (.agg (bQ (aK s e) off p.cells))))) [(true,id)]
    else none
   |some (.nest s et es)=>(es[i]?).bind fun e=>if off+aS E.P t≤s∧0<aS E.P t∧1<s then k (aw m id (.nest s et (es.set i (.agg (bQ (aK s e) off p.cells))))) [(true,id)]else none
   |_=>none
  |none=>none
 |.Ef id i off s j off2=>match k9 cY (aS E.P t) (aG E.P t) x with
  |some (p,_)=>match m id with
   |some (.nest s0 et es)=>(es[i]?).bind fun e=>(dQ s (cell e off)).bind fun rs=>(rs[j]?).bind fun q=>
    if off2+aS E.P t≤s∧0<aS E.P t∧off<s0 then k (aw m id (.nest s0 et (es.set i (setRow s0 e off (.qg s (rs.set j (setCells s q off2 (aS E.P t) p))))))) [(true,id)]
    else none
   |_=>none
  |none=>none
 |_=>none
def KE(m:Mem)(x:V)(k:Nat→bB→Option R):Option R:=
 match x with
 |.pv (.rs _ es)=>k es.length []
 |.fM=>k 0 []
 |.gh id _ len=>match m id with
  |some (.arr _ _ _)=>k len [(false,id)]
  |some (.sq _ _ _)=>k len [(false,id)]
  |_=>none
 |.os id=>match m id with
  |some (.arr _ _ es)=>k es.length [(false,id)]
  |some (.sq _ _ es)=>k es.length [(false,id)]
  |some (.nest _ _ es)=>k es.length [(false,id)]
  |some (.box cs)=>if cs.length≤maxLen then k cs.length [(false,id)]else none
  |_=>none
 |_=>none
def Wn(sz:Nat)(m:Mem)(x:V)(k:Nat→bB→Option R):Option R:=
 match x with
 |.AJ id i off=>match m id with
  |some (.nest _ _ es)=>(es[i]?).bind fun e=>(dQ sz (cell e off)).bind fun rs=>k rs.length [(false,id)]
  |_=>none
 |x=>KE m x k
def YW(m:Mem)(x:V)(k:Nat→bB→Option R):Option R:=
 match x with
 |.om id=>match m id with
  |some (.map _ es)=>if es.length≤maxLen then k es.length [(false,id)]else none
  |_=>none
 |.pv .od=>k 0 []
 |_=>none
def OK(t:TypeId)(x:V)(m:Mem)(k:V→bB→Option R):Option R:=
 match E.P.underlying t with
 |some (.array n _)=>if n≤maxLen then k (.pv (.int .i64 n)) []else none
 |some .string=>match x with
  |.pv (.str s)=>k (.pv (.int .i64 s.length)) []
  |_=>none
 |some (.slice e)=>Wn (aS E.P e) m x fun n ft=>k (.pv (.int .i64 n)) ft
 |some (.map _ _)=>YW m x fun n ft=>k (.pv (.int .i64 n)) ft
 |_=>none
def fN(m:Mem)(sz:Nat):V→Option (List PV×bB)
 |.pv (.rs s es)=>if s=sz then some (es,[])else match es with|[]=>some ([],[])|_=>none
 |.fM=>some ([],[])
 |.os id=>match m id with
  |some (.arr s' _ es)=>if s'=sz then some (es,[(false,id)])else none
  |some (.sq s' _ es)=>if s'=sz then some (es,[(false,id)])else none
  |_=>none
 |.gh id lo len=>match m id with
  |some (.arr s' _ es)=>if s'=sz then some ((es.drop lo).take len,[(false,id)])else none
  |some (.sq s' _ es)=>if s'=sz then some ((es.drop lo).take len,[(false,id)])else none
  |_=>none
 |.AJ id i off=>match m id with
  |some (.nest _ _ es)=>(es[i]?).bind fun e=>(dQ sz (cell e off)).bind fun rs=>some (rs,[(false,id)])
  |_=>none
 |_=>none
def MN(m:Mem)(sz:Nat)(x:V)(k:List PV→bB→Option R):Option R:=
 match x with
 |.AJ id i off=>match m id with
  |some (.nest _ _ es)=>(es[i]?).bind fun e=>(dQ sz (cell e off)).bind fun rs=>k rs [(false,id)]
  |_=>none
 |x=>match fN m sz x with
  |some (es,ft)=>k es ft
  |none=>none
def FE:List PV→Option Bytes
 |[]=>some []
 |.int .u8 n::r=>(FE r).map fun b=>UInt8.ofNat n.toNat::b
 |_=>none
def FF(s d:TypeId)(a:V)(m:Mem)(k:PV→bB→Option R):Option R:=
 match E.P.underlying s,E.P.underlying d with
 |some (.slice e),some .string=>match E.P.underlying e,fN m 1 a with
  |some (.int .u8),some (es,ft)=>(FE es).bind fun b=>k (.str b) ft
  |_,_=>none
 |_,_=>Ih E s d a fun p=>k p []
def ax(i:Int)(n:Nat):Prop:=0≤i∧i<(n:Int)
instance (i:Int) (n:Nat):Decidable (ax i n):=inferInstanceAs (Decidable (_∧_))
def dh(t:TypeId)(x ix:V)(m:Mem)(k:V→bB→Option R):Option R:=
 match ix with
 |.pv (.int _ i)=>match E.P.underlying t,x with
  |some (.slice e),.pv (.rs s es)=>if s=aS E.P e∧0<s then(og es i).bind fun p=>k (.pv (.rp (aK s p))) []else none
  |some (.slice e),.os id=>match m id with
   |some (.arr s _ es)=>if s=aS E.P e∧0<s then(if ax i es.length then k (.oe id i.toNat 0) [(false,id)]else none)else none
   |some (.sq s _ es)=>if s=aS E.P e∧0<s then(if ax i es.length then k (.oe id i.toNat 0) [(false,id)]else none)else none
   |some (.nest s _ es)=>if s=aS E.P e∧0<s then(if ax i es.length then k (.oe id i.toNat 0) [(false,id)]else none)else none
   |some (.box cs)=>if aS E.P e=1∧ax i cs.length then k (.op id i.toNat) [(false,id)]else none
   |_=>none
  |some (.slice e),.AJ id i0 off=>match m id with
   |some (.nest _ _ es)=>if 0<aS E.P e then(es[i0]?).bind fun e0=>(dQ (aS E.P e) (cell e0 off)).bind fun rs=>if ax i rs.length then k (.Ef id i0 off (aS E.P e) i.toNat 0) [(false,id)]else none else none
   |_=>none
  |some (.slice e),.gh id lo len=>match m id with
   |some (.arr s _ _)=>if s=aS E.P e∧0<s then(if ax i len then k (.oe id (lo+i.toNat) 0) [(false,id)]else none)else none
   |some (.sq s _ _)=>if s=aS E.P e∧0<s then(if ax i len then k (.oe id (lo+i.toNat) 0) [(false,id)]else none)else none
   |_=>none
  |some (.array n e),.op id off=>if ax i n∧0<aS E.P e then k (.op id (off+i.toNat*aS E.P e)) []else none
  |some (.array n e),.pv (.rp cs)=>if ax i n∧0<aS E.P e then k (.pv (.rp (cs.drop (i.toNat*aS E.P e)))) []else none
  |some (.array n e),.oe id j off=>if ax i n∧0<aS E.P e then(match(match m id with|some (.arr s _ _)=>Nat.beq (aS E.P e) s|_=>false)with
   |true=>k (.oe id (i.toNat+j) off) [(false,id)]
   |false=>k (.oe id j (off+i.toNat*aS E.P e)) [(false,id)])else none
  |_,_=>none
 |_=>none
def Ej(s:TypeId)(j:Nat):Option (Nat×TypeId):=
 match E.P.underlying s with
 |some (.struct fs)=>match fs[j]? with
  |some f=>if aS E.P f.type=0 then none else some (f.offset,f.type)
  |none=>none
 |_=>none
def kJ(s:TypeId)(x:V)(j:Nat)(k:V→Option R):Option R:=
 match Ej E s j with
 |some (o,_)=>match x with
  |.pv (.rp cs)=>k (.pv (.rp (cs.drop o)))
  |.op id off=>k (.op id (off+o))
  |.oe id i off=>k (.oe id i (off+o))
  |.Ef id i off s j off2=>k (.Ef id i off s j (off2+o))
  |_=>none
 |none=>none
def Ii(t:TypeId)(cs:List V)(off:Nat)(k:V→Option R):Option R:=
 if aG E.P t then(if off+aS E.P t≤cs.length then k (.agg ((cs.drop off).take (aS E.P t)))else none)
 else match cs[off]? with
  |some v=>Ei E t v k
  |none=>none
def Ij(s:TypeId)(x:V)(j:Nat)(k:V→Option R):Option R:=
 match Ej E s j,ug x with
 |some (o,t),some cs=>Ii E t cs o k
 |_,_=>none
def FG(t:TypeId)(x ix:V)(k:V→Option R):Option R:=
 match ix with
 |.pv (.int _ i)=>match E.P.underlying t,x with
  |some .string,.pv (.str s)=>(Rm s i).bind fun b=>k (.pv (.int .u8 b.toNat))
  |some (.array n et),x=>match ug x with
   |some cs=>if ax i n∧0<aS E.P et then Ii E et cs (i.toNat*aS E.P et) k else none
   |none=>none
  |_,_=>none
 |_=>none
def kg(d:Int):Option V→Option Int
 |none=>some d
 |some (.pv (.int _ i))=>some i
 |_=>none
def yR(t:TypeId)(x:V)(lo hi mx:Option V)(m:Mem)(k:V→bB→Option R):Option R:=
 match mx with
 |some mx=>match E.P.underlying t,x with
  |some (.slice e),.os id=>match m id with
   |some (.arr s _ es)=>match lo,hi,mx with
    |none,some (.pv (.int _ h)),.pv (.int _ c)=>if 0≤h∧h≤c∧c≤(es.length:Int)∧s=aS E.P e then k (.gh id 0 h.toNat) [(false,id)]else none
    |_,_,_=>none
   |_=>none
  |_,_=>none
 |none=>match E.P.underlying t,x with
  |some .string,.pv (.str s)=>match kg 0 lo,kg s.length hi with
   |some l,some h=>if 0≤l∧l≤h∧h≤(s.length:Int)then k (.pv (.str ((s.take h.toNat).drop l.toNat))) []else none
   |_,_=>none
  |some (.slice e),.pv (.rs sz es)=>match kg 0 lo,kg es.length hi with
   |some l,some h=>if 0≤l∧l≤h∧h≤(es.length:Int)∧sz=aS E.P e∧aS E.P e≠0 then k (.pv (.rs sz ((es.take h.toNat).drop l.toNat))) []else none
   |_,_=>none
  |some (.slice e),.os id=>match m id with
   |some (.arr s _ es)=>match kg 0 lo,kg es.length hi with
    |some l,some h=>if 0≤l∧l≤h∧h≤(es.length:Int)∧s=aS E.P e then k (.gh id l.toNat (h.toNat-l.toNat)) [(false,id)]else none
    |_,_=>none
   |some (.sq s _ es)=>match kg 0 lo,kg es.length hi with
    |some l,some h=>if 0≤l∧l≤h∧h≤(es.length:Int)∧s=aS E.P e then k (.gh id l.toNat (h.toNat-l.toNat)) [(false,id)]else none
    |_,_=>none
   |_=>none
  |_,_=>none
def placesOf(fs:List Field)(j:Nat):Option (Nat×Nat):=(fs[j]?).map fun f=>(f.offset,aS E.P f.type)
def Lg(place:Nat→Option (Nat×Nat))(cs:List V):List (Nat×V)→Option (List V)
 |[]=>some cs
 |(i,v)::rest=>match place i with
  |some (off,size)=>match toCells size v with
   |some new=>if off+size≤cs.length then Lg place (bQ cs off new) rest else none
   |none=>none
  |none=>none
def cQ(t:TypeId):Option (List V):=match zeroV E.P t with|some v=>toCells (aS E.P t) v|none=>none
def FH(t:TypeId)(parts:List (Nat×V))(k:V→Option R):Option R:=
 match cQ E t,E.P.underlying t with
 |some z,some (.struct fs)=>if fs.toList.all (fun f=>(E.P.info? f.type).isSome)then match Lg (placesOf E fs.toList) z parts with
  |some cs=>k (.agg cs)
  |none=>none
  else none
 |some z,some (.array _ e)=>if 0<aS E.P e then match Lg (fun i=>some (i*aS E.P e,aS E.P e)) z parts with
  |some cs=>k (.agg cs)
  |none=>none
  else none
 |_,_=>none
def fF(m:Mem)(n:Nat)(agg:Bool):Nat→List (Nat×V)→Option (List PV×Mem)
 |_,[]=>some ([],m)
 |i,(j,v)::r=>if i=j then match k9 m n agg v with
  |some (p,m)=>match fF m n agg (i+1) r with
   |some (ps,m)=>some (p::ps,m)
   |none=>none
  |none=>none
  else none
def Ik:Nat→List (Nat×V)→Option (List V)
 |_,[]=>some []
 |i,(j,v)::r=>if i=j then match toCells 1 v with
  |some cs=>match Ik (i+1) r with
   |some us=>some (cs++us)
   |none=>none
  |none=>none
  else none
def TP(t:TypeId):Bool:=match E.P.underlying t with|some (.func _ _ _)=>true|_=>false
def FI(t:TypeId):Option PV:=match zeroV E.P t with
 |some v=>match l0 cY 2 v with
  |some p=>if aG E.P t=p.isAgg∧p.cells.length=aS E.P t∧p.plain=true then some p else none
  |none=>none
 |none=>none
def keyOf(kt:TypeId)(v:V):Option PV:=
 match vS E.P kt with
 |some ks=>
  if aG E.P kt then(match ug v with
   |some cs=>match sr (l0 cY 1) cs with
    |some ps=>if jo ks ps then some (.agg ps)else none
    |none=>none
   |none=>none)
  else match v with
   |.pv p=>if jo ks [p]then some p else none
   |_=>none
 |none=>none
def OL(site:Nat)(t:TypeId)(x ix:V)(m:Mem)(k:V→Mem→bB→Option R):Option R:=
 match E.P.underlying t with
 |some (.map kt et)=>match E.P.underlying et with
  |some (.slice e)=>match x,zeroV E.P et with
   |.om id,some .fM=>match m id,m site with
    |some (.fG AG e' es),none=>if AG=kt∧e'=e∧0<aS E.P e then(keyOf E kt ix).bind fun key=>(OH (aS E.P e) key es).bind fun rs=>k (.os site) (aw (aw m id (.fG kt e (xW key es))) site (.arr (aS E.P e) e rs)) [(true,id),(true,site)]else none
    |_,_=>none
   |_,_=>none
  |_=>none
 |_=>none
def yS(t:TypeId)(x ix:V)(ok:Bool)(m:Mem)(k:V→bB→Option R):Option R:=
 match E.P.underlying t with
 |some (.map kt et)=>match FI E et with
  |some z=>match x with
   |.om id=>match m id with
    |some (.map AG es)=>if AG=kt then(keyOf E kt ix).bind fun key=>ij E et (bS key z es) fun v=>k (if ok then .aI [.pv v,.pv (.bool (ml key es))]else .pv v) [(false,id)]else none
    |_=>none
   |.pv p=>cJ kt p ((keyOf E kt ix).bind fun _=>k (if ok then .aI [.pv z,.pv (.bool false)]else .pv z) []) fun ks vs=>(keyOf E kt ix).bind fun key=>ij E et (bS key z (ks.zip vs)) fun v=>k (if ok then .aI [.pv v,.pv (.bool (ml key (ks.zip vs)))]else .pv v) []
   |_=>none
  |none=>none
 |_=>none
def Ek(draw:Bool)(m:Mem)(v:V):Option (PV×Mem):=if draw then(match yP cY v with|some (p,_)=>some (p,m)|none=>none)else yP m v
def qC(draw:Bool)(t:TypeId)(x key val:V)(m:Mem)(k:Mem→bB→Option R):Option R:=
 match E.P.underlying t with
 |some (.map kt _)=>match x with
  |.om id=>match Ek draw m val with
   |some (v,m)=>match m id with
    |some (.map AG es)=>if AG=kt then(keyOf E kt key).bind fun key=>k (aw m id (.map kt (dd key v es))) [(true,id)]else none
    |_=>none
   |none=>none
  |_=>none
 |_=>none
def ab:Nat:=140737488355328
def mn(m:Mem):Nat→List V→Option (List PV×Option (Nat×Nat))
 |_,[]=>some ([],none)
 |j,.os id::r=>match m id with
  |some (.arr s _ es)=>match mn m (j+1) r with
   |some (ps,none)=>some (.qg s es::ps,some (j,id))
   |_=>none
  |_=>none
 |j,v::r=>match l0 cY 1 v with
  |some p=>match mn m (j+1) r with
   |some (ps,t)=>some (p::ps,t)
   |none=>none
  |none=>none
def elemOf(agg:Bool)(ps:List PV):Option PV:=if agg then some (.agg ps)else match ps with|[p]=>some p|_=>none
inductive Sp where
 |st (id i off s:Nat) (et:TypeId) (es ps:List PV) (id2:Nat)
 |app (id s:Nat) (et:TypeId) (es new:List PV) (src:Option Nat) (rd:bB)
 |lit (s:Nat) (et:TypeId) (p:PV) (id2:Nat)
 |upd (id:Nat) (kt e:TypeId) (es:List (PV×PV)) (key:PV) (s:Nat) (rs:List PV) (id2:Nat)
def Dj(site:Nat)(o:Oper)(f:Fr)(m:Mem):Option Sp:=
 match o.op with
 |.store t a x=>match bJ E f a with
  |.oe id i off=>match m id with
   |some (.nest s et es)=>match toCells (aS E.P t) (bJ E f x)with
    |some cs=>match mn m 0 cs with
     |some (ps,some (_,id2))=>if off+aS E.P t≤s&&0<aS E.P t&& !(Nat.beq id2 id)then some (.st id i off s et es ps id2)else none
     |_=>none
    |none=>none
   |_=>none
  |_=>none
 |.buildSlice t len parts=>match E.P.underlying t,parts.toList.map fun(i,x)=>(i,bJ E f x)with
  |some (.slice e),[(0,v)]=>match toCells (aS E.P e) v with
   |some cs=>match mn m 0 cs,m site with
    |some (ps,some (_,id2)),none=>match elemOf (aG E.P e) ps with
     |some p=>if Nat.beq len 1&&0<aS E.P e&&aS E.P e≤16777216&&(cQ E e).isSome then some (.lit (aS E.P e) e p id2)else none
     |none=>none
    |_,_=>none
   |none=>none
  |_,_=>none
 |.call c=>match c.callee,c.args.toList.map (bJ E f),c.argTypes.toList with
  |.builtin .append,[.os id,x],[t,t']=>match E.P.underlying t,m id with
   |some (.slice e),some (.nest s et es)=>if et=e&&s=aS E.P e&&decide (t'=t)&&(cQ E e).isSome&&0<aS E.P e&&0<KD E.P e then(match x with
    |.os vM=>match m vM with
     |some (.nest s' Kz new)=>if Nat.beq s' s&&decide (Kz=et)&& !(Nat.beq vM id)then some (.app id s et es new (some vM) [])else none
     |_=>match fN m s x with
      |some (new,rd)=>if x.has id then none else some (.app id s et es new none rd)
      |none=>none
    |_=>match fN m s x with
     |some (new,rd)=>if x.has id then none else some (.app id s et es new none rd)
     |none=>none)else none
   |_,_=>none
  |_,_,_=>none
 |.mapUpdate t x key v=>match E.P.underlying t,bJ E f x,bJ E f v with
  |some (.map kt _),.om id,.os id2=>match m id,m id2,keyOf E kt (bJ E f key)with
   |some (.fG AG e es),some (.arr s e' rs),some key=>if decide (AG=kt)&&decide (e'=e)&&Nat.beq s (aS E.P e)then some (.upd id kt e es key s rs id2)else none
   |_,_,_=>none
  |_,_,_=>none
 |_=>none
def Sp.info(site:Nat):Sp→Kl×bB
 |.st id _ _ _ _ _ _ id2=>([(true,id2),(false,id)],[(true,id),(true,id2)])
 |.app id _ _ _ _ (some id2) _=>([(true,id2),(true,id)],[(true,id),(true,id2)])
 |.app id _ _ _ _ none rd=>([(true,id)],(true,id)::rd)
 |.lit _ _ _ id2=>([(true,id2)],[(true,site),(true,id2)])
 |.upd id _ _ _ _ _ _ id2=>([(true,id2),(false,id)],[(true,id),(true,id2)])
def xsp(site:Nat)(sp:Sp)(f:Fr)(m:Mem)(k:V→Fr→Mem→bB→Option R):Option R:=
 match sp with
 |.st id i off s et es ps id2=>(es[i]?).bind fun e=>k .top (kf [(true,id2),(false,id)] f) (vT [(id,.nest s et (es.set i (if s=1 then ps.headD .bad else .agg (bQ (aK s e) off ps))))] (km [(true,id2),(false,id)] m)) [(true,id),(true,id2)]
 |.app id s et es new src rd=>if(es++new).length*KD E.P et≤ab then k (.os id) (kf (Sp.app id s et es new src rd|>.info site).1 f) (vT [(id,.nest s et (es++new))] (km (Sp.app id s et es new src rd|>.info site).1 m)) (Sp.app id s et es new src rd|>.info site).2 else none
 |.lit s et p id2=>k (.os site) (kf [(true,id2)] f) (vT [(site,.nest s et [p])] (km [(true,id2)] m)) [(true,site),(true,id2)]
 |.upd id kt e es key s rs id2=>k .top (kf [(true,id2),(false,id)] f) (vT [(id,.fG kt e (dd key (.qg s rs) es))] (km [(true,id2),(false,id)] m)) [(true,id),(true,id2)]
def El(draw:Bool)(site:Nat)(t t':TypeId)(s x:V)(f:Fr)(m:Mem)(k:V→Fr→Mem→Option R):Option R:=
 if draw|| !(decide (t'=t))then none else
 match E.P.underlying t with
 |some (.slice e)=>if(cQ E e).isNone then none else match fN m (aS E.P e) x with
  |some (new,_)=>match s with
   |.fM=>if new.length*KD E.P e≤ab∧0<KD E.P e∧0<aS E.P e then fresh draw site (.arr (aS E.P e) e new) f m (fun f m _=>k (.os site) f m)else none
   |.os id=>match m id with
    |some (.arr sz et es)=>if et=e∧sz=aS E.P e∧x.has id=false then(if(es++new).length*KD E.P e≤ab∧0<KD E.P e then fresh draw id (.arr sz e (es++new)) (eP id f) (bq (bK id m) id) (fun f m _=>k (.os id) f m)else none)else none
    |_=>none
   |_=>none
  |none=>none
 |_=>none
def OM(t:TypeId)(d x:V)(m:Mem)(k:V→Mem→bB→Option R):Option R:=
 match E.P.underlying t with
 |some (.slice e)=>match d with
  |.os id=>match m id with
   |some (.arr sz et es)=>if sz=aS E.P e∧x.has id=false then MN m sz x fun new ft=>k (.pv (.int .i64 (min new.length es.length:Nat))) (aw m id (.arr sz et (new.take es.length++es.drop new.length))) ((true,id)::ft)else none
   |_=>none
  |_=>none
 |_=>none
def Il(t:TypeId)(x:V)(m:Mem)(k:V→Mem→bB→Option R):Option R:=
 match E.P.underlying t with
 |some (.slice e)=>match x,FI E e with
  |.gh id lo len,some z=>match m id with
   |some (.arr sz et es)=>if sz=aS E.P e∧et=e∧lo+len≤es.length∧0<aS E.P e then k .top (aw m id (.arr sz et (es.take lo++(List.replicate len z++es.drop (lo+len))))) [(true,id)]else none
   |_=>none
  |_,_=>none
 |_=>none
def uh(draw:Bool)(site:Nat)(t:TypeId)(len cap:V)(f:Fr)(m:Mem)(k:V→Fr→Mem→bB→Option R):Option R:=
 match E.P.underlying t,len,cap with
 |some (.slice e),.pv (.int _ n),.pv (.int _ c)=>match FI E e with
  |some z=>if 0≤n∧n≤c∧c.toNat*KD E.P e≤ab∧0<KD E.P e∧0<aS E.P e then fresh draw site (.arr (aS E.P e) e (List.replicate n.toNat z)) f m (fun f m ft=>k (.os site) f m ft)else none
  |none=>none
 |_,_,_=>none
def ON(a b:V)(k:PV→Option R):Option R:=match a,b with
 |.pv (.int q x),.pv (.int q' y)=>if q=q' then k (.int q (if y<x then y else x))else none
 |_,_=>none
def GL(a b:V)(k:PV→Option R):Option R:=match a,b with
 |.pv (.int q x),.pv (.int q' y)=>if q=q' then k (.int q (if y>x then y else x))else none
 |_,_=>none
def OO(a b c d:V)(k:PV→Option R):Option R:=GL a b fun p=>GL (.pv p) c fun p=>GL (.pv p) d k
def yT(t:TypeId):Bool:=match E.P.underlying t with|some (.int _)|some .bool|some .string=>true|_=>false
def js(m:Mem):List V→Option (List PV×Mem)
 |[]=>some ([],m)
 |v::r=>match yP m v with
  |some (p,m)=>match js m r with
   |some (ps,m)=>some (p::ps,m)
   |none=>none
  |none=>none
def Lh:PV→PV
 |.int q n=>.int q n
 |.bool b=>.bool b
 |.str s=>.str s
 |_=>.bad
def Ag(draw:Bool)(site:Nat)(fid:FuncId)(args:List V)(f:Fr)(m:Mem)(k:V→Fr→Mem→bB→Option R):Option R:=
 match E.ctx fid with
 |some M=>match E.P.funcs[fid]? with
  |some fn=>
   if fn.resultTypes.toList.all (yT E)then(match sr (l0 m eW) args with
     |some ps=>(M ps).bind fun r=>GK E fn.resultTypes.toList r fun v=>k v f m ((jr (cP m eW) args).map fun i=>(false,i))
     |none=>none)
   else(match js (if draw then cY else m) args with
     |some (ps,m')=>(M ps).bind fun r=>FC E fid fn.resultTypes.toList r fun v=>k v f (if draw then m else m') (if draw then[]else[(true,0)])
     |none=>none)
  |none=>none
 |none=>match E.own fid with
  |some M=>match E.P.funcs[fid]? with
   |some fn=>match fn.resultTypes.toList with
    |[t]=>match E.P.underlying t with
     |some (.slice e)=>if yT E e=true∧aS E.P e=1 then(match sr (l0 m eW) args with
      |some ps=>(M ps).bind fun r=>(ah (aS E.P e) r).bind fun es=>fresh draw site (.arr (aS E.P e) e (es.map Lh)) f m fun f m1 ft=>k (.os site) f m1 (ft++(jr (cP m eW) args).map fun i=>(false,i))
      |none=>none)
      else match js (if draw then cY else m) args with
      |some (ps,m')=>(M ps).bind fun r=>(ah (aS E.P e) r).bind fun es=>fresh draw site (.arr (aS E.P e) e es) f (if draw then m else m') fun f m ft=>k (.os site) f m ft
      |none=>none
     |_=>none
    |_=>none
   |none=>none
  |none=>if draw then none else E.inl R fid (site*4096+fid) args f m fun v f m=>k v f m [(true,0)]
def YX(f:TypeId→Option (List TypeId)):List Field→Option (List TypeId)
 |[]=>some []
 |x::r=>(f x.type).bind fun a=>(YX f r).bind fun b=>some (a++b)
def YY(l:List TypeId):Nat→List TypeId
 |0=>[]
 |n+1=>l++YY l n
def Im(P:Program):Nat→TypeId→Option (List TypeId)
 |0,_=>none
 |d+1,t=>match P.underlying t with
  |some (.struct fs)=>YX (Im P d) fs.toList
  |some (.array n e)=>(Im P d e).bind fun l=>some (YY l n)
  |some _=>some [t]
  |none=>none
def Ah(n:Nat)(args:List V)(f:Fr):Fr:=fun t=>bif Nat.blt t n then args.getD t .top else f (t-n)
def AL(n:Nat)(f:Fr):Fr:=fun t=>f (t+n)
def YZ:V→Bool
 |.fM=>true
 |_=>false
def xX(site j:Nat):Nat:=site+(j+1)*1606938044258990275541962092341162602522202993782792835301376
def Ce(E:Env){R:Type}(site:Nat):List TypeId→Nat→Fr→Mem→(Fr→Mem→Option R)→Option R
 |[],_,F,m,k=>k F m
 |t::ts,j,F,m,k=>match F j with
  |.fM=>match E.P.underlying t with
   |some (.slice e)=>if 0<aS E.P e then fresh false (xX site j) (.arr (aS E.P e) e []) F m fun F m _=>Ce E site ts (j+1) (gJ F j (.os (xX site j))) m k else none
   |_=>none
  |_=>Ce E site ts (j+1) F m k
def aik(E:Env)(t:TypeId):Bool:=match E.P.underlying t with|some (.slice _)=>true|_=>false
def MO(f:Fr):Option Operand→Bool
 |none=>true
 |some x=>match bJ E f x with|.pv (.int _ _)=>true|_=>false
noncomputable def vU(n:Nat)(g:Nat→Option R):Option R:= @dite _ (∃r,∀i,i<n→g i=some r) (Classical.propDecidable _) (fun h=>some (Classical.choose h)) fun _=>none
def Rq(site:Nat)(t:TypeId)(x:V)(f:Fr)(m:Mem)(k:V→Fr→Mem→Option R):Option R:=
 match E.P.underlying t with
 |some (.map kt _)=>match x with
  |.om id=>match m id with
   |some (.map AG es)=>if AG=kt then fresh false site (.iter t es none) (eP id f) (bq (bK id m) id) fun f m _=>k (.it site) f m else none
   |_=>none
  |_=>none
 |_=>none
noncomputable def Y0(x:V)(f:Fr)(m:Mem)(k:V→Fr→Mem→Option R):Option R:=
 match x with
 |.it id=>match m id with
  |some (.iter t es _)=>match E.P.underlying t with
   |some (.map kt et)=>if es.isEmpty=true then k (.aI [.pv (.bool false)]) f m else vU es.length fun i=>(es[i]?).bind fun e=>ij E kt e.1 fun a=>ij E et e.2 fun b=>k (.aI [.pv (.bool true),.pv a,.pv b]) f (aw m id (.iter t (es.eraseIdx i) (some (a,b))))
   |_=>none
  |_=>none
 |_=>none
def Rr(x:V)(m:Mem)(k:V→Mem→Option R):Option R:=
 match x with
 |.it id=>match m id with
  |some (.iter t es (some (a,b)))=>k (.aI [.pv a,.pv b]) (aw m id (.iter t es none))
  |_=>none
 |_=>none
def Rs:Op→Bool
 |.range .. =>true
 |.next .. =>true
 |.entry .. =>true
 |_=>false
def Ai(g:FuncId):FuncId:=bif Nat.blt g Ic then g else g-Ic
def Dk(g:FuncId)(caps args:List V):List V:=bif Nat.blt g Ic then args++caps else caps++args
noncomputable def cg(draw:Bool)(site:Nat)(o:Oper)(f:Fr)(m:Mem)(k:V→Fr→Mem→bB→Option R):Option R:=
 match o.op with
 |.move x=>k (bJ E f x) f m []
 |.assign x=>match bJ E f x with
  |.fM=>match E.P.underlying o.type with
   |some (.slice e)=>if 0<aS E.P e then fresh draw site (.arr (aS E.P e) e []) f m fun f m ft=>k (.os site) f m ft else none
   |_=>k .fM f m []
  |v=>k v f m []
 |.pick c a b=>match bJ E f c with
  |.pv (.bool t)=>if t then k (bJ E f a) f m []else k (bJ E f b) f m []
  |_=>none
 |.alloc t=>match cQ E t with
  |some cs=>bif E.Fs site then(match E.P.underlying t,sr TO cs with
   |some (.array n e),some ps=>if aG E.P e=true∧n*aS E.P e=aS E.P t∧0<aS E.P e∧n≤16777216 then fresh draw site (.arr (aS E.P e) e (qB (aS E.P e) n (.agg ps))) f m fun f m ft=>k (.oe site 0 0) f m ft else none
   |_,_=>none)
   else if !draw&&aik E t then Ce E site [t] 0 (Ah cs.length cs f) m fun F m=>fresh false site (.box ((List.range cs.length).map F)) (AL cs.length F) m fun f m ft=>k (.op site 0) f m ft
   else fresh draw site (.box cs) f m fun f m ft=>k (.op site 0) f m ft
  |none=>none
 |.box t x=>match toCells (aS E.P t) (bJ E f x)with
  |some cs=>if !draw&&cs.any YZ then(match Im E.P 8 t with
   |some ts=>if ts.length=cs.length then Ce E site ts 0 (Ah cs.length cs f) m fun F m=>fresh false site (.box ((List.range cs.length).map F)) (AL cs.length F) m fun f m ft=>k (.op site 0) f m ft else none
   |none=>none)else fresh draw site (.box cs) f m fun f m ft=>k (.op site 0) f m ft
  |none=>none
 |.build t parts=>FH E t (parts.toList.map fun(i,x)=>(i,bJ E f x)) fun v=>k v f m []
 |.buildSlice t len parts=>match E.P.underlying t with
  |some (.slice e)=>if TP E e then(match Ik 0 (parts.toList.map fun(i,x)=>(i,bJ E f x))with
   |some cs=>if parts.size=len∧aS E.P e=1∧len≤16777216∧(cQ E e).isSome=true then fresh draw site (.box cs) f m fun f m ft=>k (.os site) f m ft else none
   |none=>none)
   else if E.Fs (site+1000000000000000000000000000000)then(match fF cY (aS E.P e) (aG E.P e) 0 (parts.toList.map fun(i,x)=>(i,bJ E f x))with
   |some (es,_)=>if es.length=len∧0<aS E.P e∧len*aS E.P e≤16777216∧(cQ E e).isSome=true then k (.pv (.rs (aS E.P e) es)) f m []else none
   |none=>none)
   else match fF (if draw then cY else m) (aS E.P e) (aG E.P e) 0 (parts.toList.map fun(i,x)=>(i,bJ E f x))with
   |some (es,m1)=>if es.length=len∧0<aS E.P e∧len*aS E.P e≤16777216∧(cQ E e).isSome=true then fresh draw site (.arr (aS E.P e) e es) f (if draw then m else m1) fun f m ft=>k (.os site) f m ft else none
   |none=>none
  |_=>none
 |.load t a=>s9 E (E.Fs site) t (bJ E f a) m fun v ft=>k v f m ft
 |.store t a x=>wP E draw t (bJ E f a) (bJ E f x) m fun m ft=>k .top f m ft
 |.nilCheck x=>match bJ E f x with
  |.pv (.rp cs)=>k (.pv (.rp cs)) f m []
  |.op id off=>k (.op id off) f m []
  |.oe id i off=>k (.oe id i off) f m []
  |.Ef id i off s j off2=>k (.Ef id i off s j off2) f m []
  |.fn g cs=>k (.fn g cs) f m []
  |.pv (.fn g cs)=>k (.pv (.fn g cs)) f m []
  |_=>none
 |.binOp op t x y _=>match bJ E f x,bJ E f y with
  |.pv (.rs _ es),.fM=>if draw then none else Rn E op t es fun b=>k (.pv (.bool b)) f m [(true,0)]
  |a,b=>OJ E op t y a b fun p=>k (.pv p) f m []
 |.unOp op _ x=>xun op (bJ E f x) fun p=>k (.pv p) f m []
 |.convert s d x=>FF E s d (bJ E f x) m fun p ft=>k (.pv p) f m ft
 |.makeFunc (.func g) first caps=>bif Nat.blt g Ic then(if first.isEmpty then k (.fn g (caps.toList.map (bJ E f))) f m []else if caps.isEmpty then k (.fn (g+Ic) (first.toList.map (bJ E f))) f m []else none)else none
 |.makeMap t hint=>if MO E f hint=true then match E.P.underlying t with
  |some (.map kt et)=>if(vS E.P kt).isSome then(if E.Fs site then(match E.P.underlying et with
   |some (.slice e)=>fresh draw site (.fG kt e []) f m fun f m ft=>k (.om site) f m ft
   |_=>none)
   else fresh draw site (.map kt []) f m fun f m ft=>k (.om site) f m ft)else none
  |_=>none
  else none
 |.makeSlice t l c=>uh E draw site t (bJ E f l) (bJ E f c) f m k
 |.slice t x lo hi mx=>yR E t (bJ E f x) (lo.map (bJ E f)) (hi.map (bJ E f)) (mx.map (bJ E f)) m fun v ft=>k v f m ft
 |.fieldAddr s x j=>kJ E s (bJ E f x) j fun v=>k v f m []
 |.field s x j=>Ij E s (bJ E f x) j fun v=>k v f m []
 |.indexAddr t x ix=>dh E t (bJ E f x) (bJ E f ix) m fun v ft=>k v f m ft
 |.index t x ix=>FG E t (bJ E f x) (bJ E f ix) fun v=>k v f m []
 |.lookup t x ix ok=>if E.Fs site&& !ok then OL E site t (bJ E f x) (bJ E f ix) m fun v m ft=>k v f m ft else yS E t (bJ E f x) (bJ E f ix) ok m fun v ft=>k v f m ft
 |.mapUpdate t x key v=>qC E draw t (bJ E f x) (bJ E f key) (bJ E f v) m fun m ft=>k .top f m ft
 |.insert t x key v=>qC E draw t (bJ E f x) (bJ E f key) (bJ E f v) m fun m ft=>k .top f m ft
 |.range t x=>if draw then none else Rq E site t (bJ E f x) f m fun v f m=>k v f m [(true,0)]
 |.next x s=>if draw||s then none else Y0 E (bJ E f x) f m fun v f m=>k v f m [(true,0)]
 |.entry x=>if draw then none else Rr (bJ E f x) m fun v m=>k v f m [(true,0)]
 |.extract t i=>match bJ E f t with
  |.aI vs=>match vs[i]? with
   |some v=>k v f m []
   |none=>none
  |_=>none
 |.call c=>match c.callee,c.args.toList.map (bJ E f)with
  |.builtin .len,[x]=>match c.argTypes.toList with
   |[t]=>OK E t x m fun v ft=>k v f m ft
   |_=>none
  |.builtin .append,[s,x]=>match c.argTypes.toList with
   |[t,t']=>El E draw site t t' s x f m fun v f m=>k v f m [(true,0)]
   |_=>none
  |.builtin .copy,[d,x]=>match c.argTypes.toList with
   |t::_=>OM E t d x m fun v m ft=>k v f m ft
   |_=>none
  |.builtin .clear,[x]=>match c.argTypes.toList with
   |t::_=>Il E t x m fun v m ft=>k v f m ft
   |_=>none
  |.builtin .min,[a,b]=>ON a b fun p=>k (.pv p) f m []
  |.builtin .max,[a,b]=>GL a b fun p=>k (.pv p) f m []
  |.builtin .max,[a,b,c,d]=>OO a b c d fun p=>k (.pv p) f m []
  |.value (.func g),args=>Ag E draw site g args f m k
  |.value (.tmp t),args=>match bJ E f (.tmp t)with
   |.fn g caps=>Ag E draw site (Ai g) (Dk g caps args) f m k
   |.pv (.fn g caps)=>Ag E draw site (Ai g) (Dk g (caps.map .pv) args) f m k
   |.yl id=>if draw then none else E.yl R E.fn.ntmps site id args f m fun v f m=>k v f m [(true,0)]
   |_=>none
  |_,_=>none
 |_=>none
noncomputable def Ov(draw:Bool)(site:Nat)(o:Oper)(f:Fr)(m:Mem)(k:V→Fr→Mem→bB→Option R):Option R:=
 match(bif draw then none else bif E.Fs site then Dj E site o f m else none)with
 |some sp=>xsp E site sp f m k
 |none=>cg E draw site o f m k
theorem Io{R:Type}{E:Env}(site:Nat)(o:Oper)(f:Fr)(m:Mem)(k:V→Fr→Mem→bB→Option R):Ov E true site o f m k=cg E true site o f m k:=rfl
def fH(o:Oper):Bool:=
 match o.op with
 |.move _|.assign _|.pick .. |.load .. |.nilCheck _|.binOp .. |.unOp .. |.convert .. |.slice .. |.fieldAddr .. |.field .. |.indexAddr .. |.index .. |.lookup .. |.extract .. |.build .. =>true
 |.call {callee:=.builtin .len,.. }|.call {callee:=.builtin .min,.. }|.call {callee:=.builtin .max,.. }=>true
 |.call {callee:=.value _,.. }=>true
 |_=>false
def Em:bB→Bool
 |[]=>true
 |(w,_)::r=> !w&&Em r
abbrev Log:=List (Nat×Bool×Nat)
def Dl(o:Oper)(j:Nat):Bool:=o.after.toList.any fun e=>Region.binds .any e&&Nat.beq e.on j
mutual
def V.ids:V→List Nat
 |.agg cs=>OP cs
 |.aI cs=>OP cs
 |.fn _ cs=>OP cs
 |.os j=>[j]
 |.gh j _ _=>[j]
 |.oe j _ _=>[j]
 |.om j=>[j]
 |.AJ j _ _=>[j]
 |.Ef j _ _ _ _ _=>[j]
 |.op j _=>[j]
 |.yl j=>[j]
 |.it j=>[j]
 |_=>[]
def OP:List V→List Nat
 |[]=>[]
 |v::r=>v.ids++OP r
end
def Ip:Option bL→List Nat
 |some (.box cs)=>OP cs
 |_=>[]
def Cf(n:Nat):Nat:=n+2037035976334486086268445688409378161051468393665936250636140449354381299763336706183397376
def MP(m m':Mem):bB→List Nat
 |[]=>[]
 |x::r=>Ip (m x.2)++Ip (m' x.2)++MP m m' r
def HR(ops:Array Oper)(o:Oper)(f:Fr)(m m':Mem)(v:V)(ft:bB):List Nat:=OP ((o.looksAt ops).map f)++v.ids++MP m m' ft
def cy(E:Env)(d:Option Nat):Nat:=match d with|some d=>E.fid*4096+d|none=>E.fid*4096+4095
def isApp(E:Env)(o:Oper):Bool:=E.Fs (cy E o.dst)||match o.op with|.call {callee:=.builtin .append,.. }=>true|_=>false
def yU(E:Env)(f:Fr)(m:Mem)(o:Oper):Option (Nat×bB):=
 match o.op with
 |.call c=>match c.callee,c.args.toList.map (bJ E f),c.argTypes.toList with
  |.builtin .append,[.os id,x],[t,_]=>match E.P.underlying t with
   |some (.slice e)=>match fN m (aS E.P e) x with
    |some (_,rd)=>if x.has id then none else some (id,rd)
    |none=>none
   |_=>none
  |_,_,_=>none
 |_=>none
def MQ(E:Env)(f:Fr)(m:Mem)(o:Oper):Option (Kl×bB):=
 match(bif E.Fs (cy E o.dst)then Dj E (cy E o.dst) o f m else none)with
 |some sp=>some (sp.info (cy E o.dst))
 |none=>match yU E f m o with
  |some (id,rd)=>some ([(true,id)],(true,id)::rd)
  |none=>none
def reach(ops:Array Oper):Nat→Oper→Nat→Bool
 |0,o,j=>Dl o j
 |n+1,o,j=>Dl o j||o.after.toList.any fun e=>Region.binds .any e&&match ops[e.on]? with|some p=>reach ops n p j|none=>false
def TQ(ops:Array Oper)(o:Oper)(w:Bool)(id:Nat):Log→Bool
 |[]=>true
 |(j,w',vM)::r=>(!(Nat.beq id vM)||(!w&& !w')||reach ops 4 o j)&&TQ ops o w id r
def FJ(ops:Array Oper)(o:Oper)(lg:Log):bB→Bool
 |[]=>true
 |(w,id)::r=>TQ ops o w id lg&&FJ ops o lg r
def HS(ops:Array Oper)(o:Oper)(id:Nat):Log→Bool
 |[]=>true
 |(j,_,n)::r=>(!(Nat.beq n (Cf id))||reach ops 4 o j)&&HS ops o id r
def Cg(ops:Array Oper):List (Nat×Oper)→Oper→Bool
 |[],_=>true
 |(j,p)::r,o=>(p.apart ops o||reach ops 4 o j)&&Cg ops r o
def tx(ops:Array Oper):List (Nat×Oper)→List (Nat×Oper)→Bool
 |_,[]=>true
 |done,(i,o)::r=>o.after.toList.all (fun e=> !(Region.binds .any e)||Nat.blt e.on i)&&Cg ops done o&&tx ops ((i,o)::done) r
def guardOf(o:Oper)(A:List (Nat×Bool)):Option (Nat×Bool):=
 match o.guard with
 |none=>none
 |some g=>if A.elem g then none else some g
def GM(A:List (Nat×Bool)):List (Nat×Oper)→List (Nat×Oper)×List (Nat×Oper)
 |[]=>([],[])
 |x::r=>match guardOf x.2 A with
  |some _=>let(a,b):=GM A r;(x::a,b)
  |none=>([],x::r)
def b8(f:Fr):List (Nat×Oper)→Fr
 |[]=>f
 |x::r=>b8 (iQ f x.2.dst .top) r
def AM(g:Nat×Bool):List Nat→List (Nat×Oper)→Bool
 |_,[]=>true
 |done,x::r=>(match x.2.guard with
  |some h=>(Nat.beq h.1 g.1&&(h.2==g.2))||done.elem h.1
  |none=>false)&&AM g (x.1::done) r
def blind(ops:Array Oper)(body:List (Nat×Oper))(o:Oper):Bool:=body.all fun y=>match y.2.dst with
  |some d=> !((o.looksAt ops).elem d)
  |none=>true
def Y1:Bool→Bool→Bool
 |true,b=>b
 |false,b=> !b
def jt(f:Fr):List (Nat×Oper)→Fr
 |[]=>f
 |x::r=>jt (iQ f x.2.dst (.aI [])) r
def CS:V→Option Bool
 |.pv (.bool b)=>some b
 |_=>none
end
def Aj(E:Env)(o:Oper):Bool:=match o.dst with|some d=>Nat.blt d E.fn.ntmps|none=>true
def MR(E:Env)(g:FuncId):Bool:=match E.P.funcs[g]? with|some fn=>fn.resultTypes.toList.all (yT E)|none=>false
def adl(E:Env)(f:Fr)(body:List (Nat×Oper))(o:Oper):Bool:=
 fH o&&match o.op with
 |.call {callee:=.value (.func g),.. }=>(E.ctx g).isSome&&MR E g
 |.call {callee:=.value (.tmp t),.. }=>match(match body.find? (fun x=>x.2.dst==some t)with
  |some (_,p)=>(match p.op with
   |.move y=>bJ E f y
   |.assign y=>bJ E f y
   |_=>.top)
  |none=>bJ E f (.tmp t))with
  |.fn g _=>(E.ctx (Ai g)).isSome&&MR E (Ai g)
  |.pv (.fn g _)=>(E.ctx (Ai g)).isSome&&MR E (Ai g)
  |.yl _=>false
  |_=>true
 |_=>true
noncomputable def cA(E:Env)(ops:Array Oper)(mode:Nat):(fuel:Nat)→(R:Type)→List (Nat×Bool)→List (Nat×Oper)→Fr→Mem→Log→(Fr→Mem→Option R)→Option R
 |0,_,_,_,_,_,_,_=>none
 |_+1,_,_,[],f,m,_,k=>k f m
 |fuel+1,R,A,(i,o)::rest,f,m,lg,k=>
  match guardOf o A with
  |none=>
   if Aj E o then
    match(bif Nat.beq mode 2 then MQ E f m o else none)with
    |some (kl,ft)=>
     if FJ ops o lg ft&&kl.all (fun x=>HS ops o x.2 lg)&&rest.all (fun x=>reach ops 4 x.2 i)then Ov E false (cy E o.dst) o f m fun v f1 m1 _=>cA E ops mode fuel R A rest (iQ f1 o.dst v) m1 (ft.map (fun x=>(i,x))++lg) k
     else none
    |none=>Ov E (Nat.beq mode 1||Nat.beq mode 2) (cy E o.dst) o f m fun v f1 m1 ft=>
      if Nat.beq mode 2 then(if FJ ops o lg ft then cA E ops mode fuel R A rest (iQ f1 o.dst v) m1 ((bif ops.toList.any (isApp E)then(HR ops o f m m1 v ft).map (fun n=>(i,false,Cf n))else[])++(ft.map (fun x=>(i,x))++lg)) k else none)
      else if Nat.beq mode 0 then cA E ops mode fuel R A rest (iQ f1 o.dst v) m1 lg k
      else if Em ft then cA E ops mode fuel R A rest (iQ f1 o.dst v) m1 lg k
      else none
   else none
  |some (j,HB)=>
   match((ops[j]?).bind (·.dst))with
   |some tj=>match bJ E f (.tmp tj)with
    |.pv (.bool b)=>
     match GM A ((i,o)::rest)with
     |(body,OQ)=>
     if Nat.beq mode 0&& !(body.all fun x=>adl E f body x.2)then
      (if(body.all fun x=>Aj E x.2)&&AM (j,HB) [] body&&((i,o)::rest).all (fun x=> !(x.2.dst==some tj))then
       bif Y1 HB b then cA E ops mode fuel R ((j,HB)::A) ((i,o)::rest) (gJ f tj (.pv (.bool HB))) m lg k
       else cA E ops mode fuel R A OQ (jt (gJ f tj (.pv (.bool !HB))) body) m lg k
      else none)
     else match OQ with
     |(_,p)::oD=>
      match p.op with
      |.pick (.tmp c) x y=>
       if Nat.beq c tj&&(guardOf p A).isNone&&body.all (fun x=>fH x.2&&Aj E x.2&& !(x.2.dst==some tj))&&AM (j,HB) [] body&&oD.all (fun x=>blind ops body x.2)&&Aj E p&& !(Nat.beq mode 2)then
        (match HB with
         |true=>bif b then cA E ops (bif Nat.beq mode 0 then 3 else mode) fuel Bool ((j,HB)::A) body f m lg (fun f _=>CS (bJ E f x))else CS (bJ E (b8 f body) y)
         |false=>bif b then CS (bJ E (b8 f body) x)else cA E ops (bif Nat.beq mode 0 then 3 else mode) fuel Bool ((j,HB)::A) body f m lg (fun f _=>CS (bJ E f y))).bind fun r=>
        cA E ops mode fuel R A oD (iQ (b8 f body) p.dst (.pv (.bool r))) m lg k
       else none
      |_=>none
     |[]=>none
    |_=>none
   |none=>none
inductive Ex where
 |normal
 |exit (id:Nat)
 |ret
def OR{R:Type}(body:Fr→Mem→(Fr→Mem→Option R)→Option R):Nat→Fr→Mem→Option R
 |0,_,_=>none
 |n+1,f,m=>body f m (OR body n)
def Ch:Code→Nat
 |.region id _ _=>id
 |.seq a _=>Ch a
 |.cond _ a _=>Ch a
 |.block _ b=>Ch b
 |.loop b=>Ch b
 |.scope b=>Ch b
 |_=>0
def TR:List Sh→Type→Type
 |[],T=>T
 |.raw::r,T=>PV×TR r T
 |.int _::r,T=>Int×TR r T
 |.bool::r,T=>Bool×TR r T
 |.str::r,T=>Bytes×TR r T
 |.rs _::r,T=>List PV×TR r T
 |.rp _::r,T=>PV×TR r T
 |.fs _::r,T=>List PV×TR r T
 |.row _ _::r,T=>Int×TR r T
 |.own _::r,T=>TR r T
def Ow:List (Nat×FB)→Type
 |[]=>Unit
 |(_,.box cs)::r=>TR cs (Ow r)
 |(_,.arr _ _)::r=>List PV×Ow r
 |(_,.sq _ _)::r=>List PV×Ow r
 |(_,.map _)::r=>List (PV×PV)×Ow r
 |(_,.nest _ _)::r=>List PV×Ow r
 |(_,.fG _ _)::r=>List (PV×PV)×Ow r
 |(_,.loop)::r=>Ow r
 |(_,.busy)::r=>Ow r
 |(_,.iter _)::r=>List (PV×PV)×Ow r
def Lf.kD(T:Lf):List Sh:=T.bV.map Prod.snd
abbrev Lf.ty(T:Lf):Type:=TR T.kD (Ow T.Dh)
mutual
def V.same:V→V→Bool
 |.op i o,.op j p=>Nat.beq i j&&Nat.beq o p
 |.oe i a o,.oe j b p=>Nat.beq i j&&Nat.beq a b&&Nat.beq o p
 |.os i,.os j=>Nat.beq i j
 |.om i,.om j=>Nat.beq i j
 |.yl i,.yl j=>Nat.beq i j
 |.it i,.it j=>Nat.beq i j
 |.fM,.fM=>true
 |.pv .ig,.pv .ig=>true
 |.pv .od,.pv .od=>true
 |.pv (.int q x),.pv (.int q' y)=>decide (q=q')&&decide (x=y)
 |.fn f cs,.fn g ds=>Nat.beq f g&&GN cs ds
 |_,_=>false
def GN:List V→List V→Bool
 |[],[]=>true
 |a::as,b::bs=>a.same b&&GN as bs
 |_,_=>false
end
section
variable {R:Type}
def kE{T:Type}:(kD:List Sh)→List V→T→(TR kD T→Option R)→Option R
 |[],[],t,k=>k t
 |.int q::kD,.pv (.int q' n)::vs,t,k=>if q'=q then kE kD vs t (fun r=>k (n,r))else none
 |.raw::kD,.pv p::vs,t,k=>kE kD vs t (fun r=>k (p,r))
 |.bool::kD,.pv (.bool b)::vs,t,k=>kE kD vs t (fun r=>k (b,r))
 |.str::kD,.pv (.str s)::vs,t,k=>kE kD vs t (fun r=>k (s,r))
 |.rs sz::kD,.pv (.rs Ky es)::vs,t,k=>if Ky=sz then kE kD vs t (fun r=>k (es,r))else none
 |.rp n::kD,.pv (.rp cs)::vs,t,k=>if cs.length=n then kE kD vs t (fun r=>k (.agg cs,r))else none
 |.fs s::kD,.pv p::vs,t,k=>(rdL s p).bind fun ls=>kE kD vs t (fun r=>k (ls,r))
 |.row id off::kD,.AJ vM i yV::vs,t,k=>if vM=id∧yV=off then kE kD vs t (fun r=>k ((i:Int),r))else none
 |.own v::kD,u::vs,t,k=>if v.same u then kE kD vs t k else none
 |_,_,_,_=>none
def xY(m:Mem):(bs:List (Nat×FB))→(Ow bs→Option R)→Option R
 |[],k=>k ()
 |(id,.box cs)::r,k=>match m id with
  |some (.box vs)=>xY m r fun t=>kE (T:=Ow r) cs vs t k
  |_=>none
 |(id,.arr sz et)::r,k=>match m id with
  |some (.arr Ky Kz es)=>if Ky=sz∧Kz=et then xY m r fun t=>k (es,t)else none
  |_=>none
 |(id,.sq sz et)::r,k=>match m id with
  |some (.sq Ky Kz es)=>if Ky=sz∧Kz=et then xY m r fun t=>k (es,t)else none
  |_=>none
 |(id,.map kt)::r,k=>match m id with
  |some (.map AG es)=>if AG=kt then xY m r fun t=>k (es,t)else none
  |_=>none
 |(id,.nest sz et)::r,k=>match m id with
  |some (.nest Ky Kz es)=>if Ky=sz∧Kz=et then xY m r fun t=>k (es,t)else none
  |_=>none
 |(id,.fG kt e)::r,k=>match m id with
  |some (.fG AG e' es)=>if AG=kt∧e'=e then xY m r fun t=>k (es,t)else none
  |_=>none
 |(id,.loop)::r,k=>match m id with
  |some (.loop .ready)=>xY m r k
  |_=>none
 |(id,.busy)::r,k=>match m id with
  |some (.loop .busy)=>xY m r k
  |_=>none
 |(id,.iter t)::r,k=>match m id with
  |some (.iter t' es none)=>if t'=t then xY m r fun u=>k (es,u)else none
  |_=>none
def Sh.within(M:List Nat):Sh→Bool
 |.own v=>v.within M
 |.row id _=>M.elem id
 |_=>true
def FB.within(M:List Nat):FB→Bool
 |.box cs=>cs.all (·.within M)
 |_=>true
def Lf.ok(T:Lf):Bool:=T.bV.all (fun x=>x.2.within (T.Dh.map (·.1)))&&T.Dh.all (fun x=>x.2.within (T.Dh.map (·.1)))
def Iq:List Sh→List V→Bool
 |[],[]=>true
 |.raw::kD,.pv _::vs=>Iq kD vs
 |.int q::kD,.pv (.int q' _)::vs=>decide (q'=q)&&Iq kD vs
 |.bool::kD,.pv (.bool _)::vs=>Iq kD vs
 |.str::kD,.pv (.str _)::vs=>Iq kD vs
 |.rs sz::kD,.pv (.rs Ky _)::vs=>Nat.beq Ky sz&&Iq kD vs
 |.rp n::kD,.pv (.rp cs)::vs=>Nat.beq cs.length n&&Iq kD vs
 |.fs s::kD,.pv p::vs=>(rdL s p).isSome&&Iq kD vs
 |.row id off::kD,.AJ vM _ yV::vs=>Nat.beq vM id&&Nat.beq yV off&&Iq kD vs
 |.own v::kD,u::vs=>v.same u&&Iq kD vs
 |_,_=>false
def KF(m:Mem):List (Nat×FB)→Bool
 |[]=>true
 |(id,.box cs)::r=>(match m id with|some (.box vs)=>Iq cs vs|_=>false)&&KF m r
 |(id,.arr sz _)::r=>(match m id with|some (.arr Ky _ _)=>Nat.beq Ky sz|_=>false)&&KF m r
 |(id,.sq sz _)::r=>(match m id with|some (.sq Ky _ _)=>Nat.beq Ky sz|_=>false)&&KF m r
 |(id,.map _)::r=>(match m id with|some (.map _ _)=>true|_=>false)&&KF m r
 |(id,.nest sz _)::r=>(match m id with|some (.nest Ky _ _)=>Nat.beq Ky sz|_=>false)&&KF m r
 |(id,.fG _ _)::r=>(match m id with|some (.fG _ _ _)=>true|_=>false)&&KF m r
 |(id,.loop)::r=>(match m id with|some (.loop .ready)=>true|_=>false)&&KF m r
 |(id,.busy)::r=>(match m id with|some (.loop .busy)=>true|_=>false)&&KF m r
 |(id,.iter _)::r=>(match m id with|some (.iter _ _ none)=>true|_=>false)&&KF m r
def fits(f:Fr)(m:Mem)(T:Lf):Bool:=KF m T.Dh&&Iq T.kD (T.bV.map fun(x:Nat×Sh)=>f x.1)
def enc(T:Lf)(f:Fr)(m:Mem)(k:T.ty→Option R):Option R:=if T.ok then xY m T.Dh fun t=>kE (T:=Ow T.Dh) T.kD (T.bV.map fun(x:Nat×Sh)=>f x.1) t k else none
end
def vN{T:Type}:(kD:List Sh)→TR kD T→List V×T
 |[],t=>([],t)
 |.int q::kD,x=>let r:=vN kD x.2;(.pv (.int q x.1)::r.1,r.2)
 |.raw::kD,x=>let r:=vN kD x.2;(.pv x.1::r.1,r.2)
 |.bool::kD,x=>let r:=vN kD x.2;(.pv (.bool x.1)::r.1,r.2)
 |.str::kD,x=>let r:=vN kD x.2;(.pv (.str x.1)::r.1,r.2)
 |.rs sz::kD,x=>let r:=vN kD x.2;(.pv (.rs sz x.1)::r.1,r.2)
 |.rp n::kD,x=>let r:=vN kD x.2;(.pv (.rp (aK n x.1))::r.1,r.2)
 |.fs s::kD,x=>let r:=vN kD x.2;(.pv (ML s ((List.range s.n).map fun j=>x.1.getD j .bad)).1::r.1,r.2)
 |.row id off::kD,x=>let r:=vN kD x.2;(.AJ id x.1.toNat off::r.1,r.2)
 |.own v::kD,x=>let r:=vN (T:=T) kD x;(v::r.1,r.2)
def iy:(bs:List (Nat×FB))→Ow bs→List (Nat×Option bL)
 |[],_=>[]
 |(id,.box cs)::r,x=>let y:=vN (T:=Ow r) cs x;(id,some (.box y.1))::iy r y.2
 |(id,.arr sz et)::r,x=>(id,some (.arr sz et x.1))::iy r x.2
 |(id,.sq sz et)::r,x=>(id,some (.sq sz et x.1))::iy r x.2
 |(id,.map kt)::r,x=>(id,some (.map kt x.1))::iy r x.2
 |(id,.nest sz et)::r,x=>(id,some (.nest sz et x.1))::iy r x.2
 |(id,.fG kt e)::r,x=>(id,some (.fG kt e x.1))::iy r x.2
 |(id,.loop)::r,x=>(id,some (.loop .ready))::iy (r:List (Nat×FB)) x
 |(id,.busy)::r,x=>(id,some (.loop .busy))::iy (r:List (Nat×FB)) x
 |(id,.iter t)::r,x=>(id,some (.iter t x.1 none))::iy r x.2
def ui:List (Nat×Sh)→List V→List (Nat×V)
 |(t,_)::r,v::vs=>(t,v)::ui r vs
 |_,_=>[]
def Rt(T:Lf)(x:T.ty):Fr:=Rl (ui T.bV (vN (T:=Ow T.Dh) T.kD x).1)
def Ir(T:Lf)(x:T.ty):Mem:=Ib (iy T.Dh (vN (T:=Ow T.Dh) T.kD x).2)
def GO{A:Type}:List (Nat×Nat)→Fr→Mem→(Fr→Mem→A)→A
 |[],f,m,k=>k f m
 |(t,sz)::r,f,m,k=>match f t with
  |.os id=>match m id with
   |some (.arr s et es)=>GO r (gJ f t (.pv (.rs s es))) (aw m id (.sq s et es)) k
   |some (.sq s _ es)=>GO r (gJ f t (.pv (.rs s es))) m k
   |_=>GO r f m k
  |.fM=>GO r (gJ f t (.pv (.rs sz []))) m k
  |_=>GO r f m k
def CT{A:Type}:List (Nat×Nat×Nat)→Mem→(Mem→A)→A
 |[],m,k=>k m
 |(id,j,sz)::r,m,k=>match m id with
  |some (.box cs)=>match cs[j]? with
   |some .fM=>CT r (aw m id (.box (cs.set j (.pv (.rs sz []))))) k
   |some (.os d)=>match m d with
    |some (.arr s et es)=>if Nat.beq d id then CT r m k else CT r (aw (aw m d (.sq s et es)) id (.box (cs.set j (.pv (.rs s es))))) k
    |some (.sq s _ es)=>CT r (aw m id (.box (cs.set j (.pv (.rs s es))))) k
    |_=>CT r m k
   |_=>CT r m k
  |_=>CT r m k
def GP{A:Type}(P:Program):List (Nat×Nat×Nat×TypeId)→Mem→(Mem→A)→A
 |[],m,k=>k m
 |(id,j,Y2,et)::r,m,k=>match m id with
  |some (.box cs)=>match cs[j]? with
   |some .fM=>match m Y2 with
    |none=>if 0<aS P et then GP P r (aw (aw m Y2 (.arr (aS P et) et [])) id (.box (cs.set j (.os Y2)))) k else GP P r m k
    |some _=>GP P r m k
   |_=>GP P r m k
  |_=>GP P r m k
def OS{A:Type}:List Nat→Mem→(Mem→A)→A
 |[],m,k=>k m
 |id::r,m,k=>match m id with
  |some (.arr s et es)=>OS r (aw m id (.nest s et es)) k
  |_=>OS r m k
def GQ{A:Type}:List (Nat×Nat)→Fr→Mem→(Fr→Mem→A)→A
 |[],f,m,k=>k f m
 |(id,j)::r,f,m,k=>match m id with
  |some (.box cs)=>match cs[j]? with
   |some (.gh a 0 len)=>match m a with
    |some (.arr s et es)=>if Nat.beq a id then GQ r f m k else GQ r (eP a f) (aw (aw (bq (bK a m) a) a (.arr s et (es.take len))) id (.box ((cs.map (uf a)).set j (.os a)))) k
    |_=>GQ r f m k
   |_=>GQ r f m k
  |_=>GQ r f m k
def Li{A:Type}(P:Program)(T:Lf)(f:Fr)(m:Mem)(k:Fr→Mem→A):A:=GQ T.ct f m fun f m=>GP P T.bo m fun m=>CT T.bz m fun m=>OS T.nz m fun m=>GO T.fz f m k
variable{R:Type}
def Ex.OT(k1:Fr→Mem→Option R)(k:Ex→Fr→Mem→Option R):Ex→Fr→Mem→Option R
 |.normal,f,m=>k1 f m
 |e,f,m=>k e f m
def Ex.Y3(id:Nat)(k:Ex→Fr→Mem→Option R):Ex→Fr→Mem→Option R
 |.exit j,f,m=>if j=id then k .normal f m else k (.exit j) f m
 |e,f,m=>k e f m
def Ex.jmp:Ex→Option Jmp
 |.normal=>none
 |.exit id=>some (.exit id)
 |.ret=>some .ret
def Jmp.ex:Jmp→Ex
 |.ret=>.ret
 |.exit id=>.exit id
def TS(n:Nat)(g f:Fr):Fr:=fun t=>bif Nat.blt t n then g t else f (t-n)
def Is:List Nat→List V→Fr→Fr
 |p::ps,v::vs,f=>Is ps vs (gJ f p v)
 |_,_,f=>f
def roundOf(as b:Fr→Mem→(Ex→Fr→Mem→Option R)→Option R)(lid n:Nat)(ps:List Nat)(nt:Nat)(args:List V)(F:Fr)(m:Mem)(k:V→Fr→Mem→Option R):Option R:=
 match m lid with
 |some (.loop .ready)=>if args.length=ps.length then
  as (TS n (Is ps args (AL nt F)) F) m fun e f m=>match e,m lid with
   |.normal,some (.loop .ready)=>b f (aw m lid (.loop .busy)) fun e f m=>match m lid with
    |some (.loop .busy)=>match e.jmp with
     |none=>k (.pv (.bool true)) (AL n f) (aw m lid (.loop .ready))
     |some j=>k (.pv (.bool false)) (AL n f) (aw m lid (.loop (.done j)))
    |_=>none
   |_,_=>none
  else none
 |_=>none
def afz:V→Option (FuncId×List V)
 |.fn g caps=>bif Nat.blt g Ic then some (g,caps)else none
 |.pv (.fn g caps)=>bif Nat.blt g Ic then some (g,caps.map .pv)else none
 |_=>none
def ail(E:Env)(o:Oper):Bool:=match o.op with
 |.call c=>match c.callee with
  |.value (.func g)=>(E.ctx g).isNone&&(E.own g).isNone
  |_=>false
 |_=>false
def aim(E:Env)(o:Oper):Bool:=match o.op with
 |.call c=>match c.callee with
  |.value (.func g)=>(E.ctx g).isNone&&(E.own g).isSome
  |_=>false
 |_=>false
mutual
def PV.FK:PV→PV→Bool
 |.int k n,.int k' n'=>decide (k=k')&&decide (n=n')
 |.bool b,.bool b'=>b==b'
 |.str s,.str s'=>decide (s=s')
 |.agg cs,.agg ds=>Dm cs ds
 |.aI cs,.aI ds=>Dm cs ds
 |.ig,.ig=>true
 |.rp cs,.rp ds=>Dm cs ds
 |.rs n cs,.rs n' ds=>Nat.beq n n'&&Dm cs ds
 |.qg n cs,.qg n' ds=>Nat.beq n n'&&Dm cs ds
 |.od,.od=>true
 |.rm t ks vs,.rm t' ks' vs'=>Nat.beq t t'&&Dm ks ks'&&Dm vs vs'
 |.CJ,.CJ=>true
 |.fn f cs,.fn f' ds=>Nat.beq f f'&&Dm cs ds
 |.Wm b,.Wm b'=>b==b'
 |.bad,.bad=>true
 |_,_=>false
def Dm:List PV→List PV→Bool
 |[],[]=>true
 |c::cs,d::ds=>c.FK d&&Dm cs ds
 |_,_=>false
end
def eqP(p q:PV):Bool:=p.FK q
noncomputable def eqK(v u:V)(r:Option R):Option R:=match v,u with
 |.pv p,.pv q=>bif eqP p q then r else none
 |.agg cs,.agg ds=>bif GN cs ds then r else none
 |v,u=>bif v.same u then r else none
noncomputable def Ru{R:Type}:List (Nat×Oper)→Fr→Fr→Option R→Option R
 |[],_,_,r=>r
 |x::l,f0,f1,r=>match x.2.dst with
  |some d=>eqK (f0 d) (f1 d) (Ru l f0 f1 r)
  |none=>Ru l f0 f1 r
def HC(ops:Array Oper):List (Nat×Oper):=(List.range ops.size).zip ops.toList
def al2(E:Env)(ops:Array Oper):List Nat:=((HC ops).filter fun x=>ail E x.2||E.Fs (3000000000000000000000000000000+(E.fid%4096*4096+x.2.dst.getD 0))).map (·.1)
def mZ(o:Oper):Bool:=o.guard.isNone&&match o.op with|.move _=>true|.load .. =>true|.nilCheck _=>true|.fieldAddr .. =>true|_=>false
def oj(E:Env)(o:Oper):Bool:=o.guard.isNone&&o.after.isEmpty&& !isApp E o&&Aj E o&&match o.op,o.dst with|.alloc t,some _=>(cQ E t).isSome|_,_=>false
def aeQ(o:Oper):Bool:=o.guard.isNone&&match o.op with|.call _=>true|_=>false
def It(ops:Array Oper)(x:Nat×Oper):Bool:=(HC ops).all fun y=>Nat.beq x.1 y.1||x.2.dst.isNone|| !(y.2.dst==x.2.dst)
def OU(E:Env)(ops:Array Oper)(done:List Nat)(p:Nat)(o:Oper):List (Nat×Oper):=(HC ops).filter fun x=> !done.elem x.1&& !Nat.beq x.1 p&& !reach ops 8 x.2 p&&(!oj E x.2||reach ops 8 o x.1)
def su(E:Env)(ops:Array Oper)(done:List Nat):List (Nat×Oper):=(HC ops).filter fun x=>oj E x.2&& !done.elem x.1
def Rv(ops:Array Oper)(done:List Nat):List (Nat×Oper):=(HC ops).filter fun x=> !done.elem x.1
def KG(ops:Array Oper)(o:Oper)(l:List (Nat×Oper)):List (Nat×Oper):=l.filter fun x=> !reach ops 8 o x.1
def AN(ops:Array Oper)(o:Oper)(l:List (Nat×Oper)):List Nat:=(l.filter fun x=>reach ops 8 o x.1).map (·.1)
def OV(done:List Nat)(l:List (Nat×Oper))(o:Oper):Bool:=o.after.toList.all fun e=> !Region.binds .any e||done.elem e.on||l.any fun y=>Nat.beq y.1 e.on
def aeR(E:Env)(ops:Array Oper)(done:List Nat)(fl:List (Nat×Oper))(p:Nat)(o:Oper)(l:List (Nat×Oper)):Bool:=tx ops [] l&&aeQ o&& !done.elem p&&OV (AN ops o l++done) [] o&&l.all (fun x=>OV done l x.2&&(!reach ops 8 o x.1||OV (AN ops o l++done) [] x.2))&&fl.all (fun x=> !reach ops 8 x.2 p)&&(KG ops o l).all (fun x=>mZ x.2&& !isApp E x.2&&x.2.apart ops o&&It ops x)&&(su E ops done).all fun x=>It ops x
def MS(E:Env)(ops:Array Oper)(x:Nat×Oper):Bool:=((List.range ops.size).zip ops.toList).any fun y=>isApp E y.2&&(Nat.beq x.1 y.1||reach ops 4 x.2 y.1)
def En(E:Env)(ops:Array Oper):List (Nat×Oper):=
 bif E.Fs (2000000000000000000000000000000+E.fid)then((List.range ops.size).zip ops.toList).filter (fun x=> !MS E ops x)++((List.range ops.size).zip ops.toList).filter (MS E ops)
 else(List.range ops.size).zip ops.toList
noncomputable def FL(E:Env)(ops:Array Oper){R:Type}(k:Fr→Mem→Option R):List Nat→List Nat→List (Nat×Oper)→Fr→Fr→Mem→Option R
 |[],done,fl,f0,f,m=>if tx ops [] (Rv ops done)then cA E ops 2 (ops.size+1) R [] (Rv ops done) f m [] fun f1 m1=>Ru fl f0 f1 (k f1 m1)else none
 |p::ps,done,fl,f0,f,m=>match ops[p]? with
  |some o=>if aeR E ops done fl p o (OU E ops done p o)then cA E ops 2 (ops.size+1) R [] (OU E ops done p o) f m [] fun f1 m1=>Ru fl f0 f1 (cA E ops 0 3 R [] [(p,o)] f1 m1 [] fun f2 m2=>FL E ops k ps (p::(AN ops o (OU E ops done p o)++done)) (KG ops o (OU E ops done p o)) f2 (b8 f2 (KG ops o (OU E ops done p o)++su E ops (p::(AN ops o (OU E ops done p o)++done)))) m2)else none
  |none=>none
noncomputable def fq:(E:Env)→{R:Type}→Code→Fr→Mem→(Ex→Fr→Mem→Option R)→Option R
 |E,_,.skip,f,m,k=>k .normal f m
 |E,R,.region _ ops draw,f,m,k=>
  if draw then
   match al2 E ops with
   |p::ps=>FL E ops (fun f m=>k .normal f m) (p::ps) [] [] f (b8 f (su E ops [])) m
   |[]=>
   (if tx ops [] (En E ops)then
    (if ops.toList.all (fun o=>fH o&& !aim E o)then cA E ops 1 (ops.size+1) R [] (En E ops) f m [] fun f m=>k .normal f m
    else cA E ops 2 (ops.size+1) R [] (En E ops) f m [] fun f m=>k .normal f m)
   else none)
  else cA E ops 0 (ops.size+ops.size+1) R [] ((List.range ops.size).zip ops.toList) f m [] fun f m=>k .normal f m
 |E,R,.seq a b,f,m,k=>fq E a f m (Ex.OT (fun f m=>fq E b f m k) k)
 |E,R,.cond c a b,f,m,k=>match c,bJ E f c with
  |.tmp x,.pv (.bool t)=>if t then fq E a (gJ f x (.pv (.bool true))) m k else fq E b (gJ f x (.pv (.bool false))) m k
  |_,_=>none
 |E,R,.block id b,f,m,k=>fq E b f m (Ex.Y3 id k)
 |E,R,.loop b,f,m,k=>match(E.hint E.fid (Ch b)).find? (fun T=>Li E.P T f m fun f m=>fits f m T)with
  |some T=>Li E.P T f m fun f m=>enc T f m (E.lp.run fun s rec=>fq E b (Rt T s) (Ir T s) (Ex.OT (fun f m=>Li E.P T f m fun f m=>enc T f m rec) k))
  |none=>OR (fun f m rec=>fq E b f m (Ex.OT rec k)) E.u f m
 |E,R,.exit id,f,m,k=>k (.exit id) f m
 |E,R,.ret,f,m,k=>k .ret f m
 |E,R,.label _,f,m,k=>k .normal f m
 |E,R,.scope b,f,m,k=>fq E b f m k
 |E,R,.rangeFunc g ps as b,f,m,k=>if E.rdb then none else match ps.toList with
  |p0::_=>fresh true (cy E (some p0)) (.loop .ready) f m fun f m _=>match afz (bJ E f g)with
   |some (gid,caps)=>E.rng R gid (cy E (some p0)*4096+gid) (fun _ nt site id args F m k=>bif Nat.beq id (cy E (some p0))then
     roundOf (fq {E with fid:=site*4096+E.fid%4096,yl:=Di,rdb:=true} as) (fq {E with fid:=site*4096+E.fid%4096,yl:=Di,rdb:=true} b) (cy E (some p0)) E.fn.ntmps ps.toList nt args F m k
     else none)
    (.yl (cy E (some p0))::caps) f m fun _ f m=>match m (cy E (some p0))with
     |some (.loop .ready)=>k .normal (eP (cy E (some p0)) f) (bq (bK (cy E (some p0)) m) (cy E (some p0)))
     |some (.loop (.done j))=>k j.ex (eP (cy E (some p0)) f) (bq (bK (cy E (some p0)) m) (cy E (some p0)))
     |_=>none
   |_=>none
  |[]=>none
 |_,_,_,_,_,_=>none
def Eo(E:Env){R:Type}(f:Fr)(m:Mem):List ResultVar→(List V→Option R)→Option R
 |[],k=>k []
 |.tmp t::rs,k=>Eo E f m rs fun vs=>k (bJ E f (.tmp t)::vs)
 |.cell a t::rs,k=>s9 E false t (bJ E f (.tmp a)) m fun v _=>Eo E f m rs fun vs=>k (v::vs)
def Y4(E:Env)(rs:List ResultVar)(f:Fr)(m:Mem):Option PV:=Eo E f m rs fun vs=>match vs with
  |[v]=>l0 m eW v
  |vs=>(sr (l0 m eW) vs).bind fun ps=>some (.aI ps)
section
variable {R:Type} (E:Env)
def MT(t:TypeId)(p:PV)(k:PV→Option R):Option R:=
 match E.P.underlying t with
 |some (.int _)=>ij E t p k
 |some .bool=>ij E t p k
 |some .string=>ij E t p k
 |some (.slice _)=>ij E t p k
 |some (.map _ _)=>ij E t p k
 |some (.pointer _)=>ij E t p k
 |_=>k p
def tz:List TypeId→List PV→(List PV→Option R)→Option R
 |t::ts,p::ps,k=>MT E t p fun q=>tz ts ps fun qs=>k (q::qs)
 |_,ps,k=>k ps
def Y5(t:TypeId)(p:PV)(k:PV→Option R):Option R:=
 match E.P.underlying t with
 |some (.struct _)=>(asAgg (aS E.P t) p).bind fun _=>match Im E.P 8 t with
  |some ts=>tz E ts (aK (aS E.P t) p) fun cs=>k (.agg cs)
  |none=>none
 |some (.array _ _)=>(asAgg (aS E.P t) p).bind fun _=>match Im E.P 8 t with
  |some ts=>tz E ts (aK (aS E.P t) p) fun cs=>k (.agg cs)
  |none=>none
 |some (.pointer e)=>dp (aS E.P e) p (k .ig) fun q=>match Im E.P 8 e with
  |some ts=>tz E ts (aK (aS E.P e) q) fun cs=>k (.rp cs)
  |none=>none
 |_=>MT E t p k
def Dn:List TypeId→List PV→(List PV→Option R)→Option R
 |t::ts,p::ps,k=>Y5 E t p fun q=>Dn ts ps fun qs=>k (q::qs)
 |_,ps,k=>k ps
end
def Iu(args:List V):Fr:=fun t=>args.getD t .top
noncomputable def HT(E:Env)(args:List V)(f:Fr)(m:Mem)(k:V→Fr→Mem→Option R):Option R:=
 match E.fn.body with
 |some c=>if args.length≤E.fn.ntmps then fq E c (Ah E.fn.ntmps args f) m (fun e f m=>match e with
  |.exit _=>none
  |_=>Eo E f m E.fn.results.toList fun vs=>match vs with
   |[v]=>k v (AL E.fn.ntmps f) m
   |vs=>k (.aI vs) (AL E.fn.ntmps f) m)else none
 |none=>none
def afA(E:Env)(f:Fr)(m:Mem):Option PV:=
 match E.fn.resultTypes.toList with
 |[t]=>match E.P.underlying t with
  |some (.slice e)=>Eo E f m E.fn.results.toList fun vs=>match vs with
   |[.os id]=>match m id with
    |some (.arr sz et es)=>if sz=aS E.P e∧et=e then some (.rs sz es)else none
    |_=>none
   |[.gh id 0 len]=>match m id with
    |some (.arr sz et es)=>if sz=aS E.P e∧et=e then some (.rs sz (es.take len))else none
    |_=>none
   |_=>none
  |_=>none
 |_=>none
noncomputable def oE(E:Env)(args:List PV):Option PV:=
 match E.fn.body with
 |some c=>if args.length≤E.fn.ntmps then Dn E E.fn.params.toList args fun vs=>fq E c (Iu (vs.map .pv)) (fun _=>none) (fun e f m=>match e with
  |.exit _=>none
  |_=>afA E f m)else none
 |none=>none
noncomputable def eu(E:Env)(args:List PV):Option PV:=
 match E.fn.body with
 |some c=>if args.length≤E.fn.ntmps then Dn E E.fn.params.toList args fun vs=>fq E c (Iu (vs.map .pv)) (fun _=>none) (fun e f m=>match e with
  |.normal=>Y4 E E.fn.results.toList f m
  |.ret=>Y4 E E.fn.results.toList f m
  |.exit _=>none)else none
 |none=>none
end Go.Ab
