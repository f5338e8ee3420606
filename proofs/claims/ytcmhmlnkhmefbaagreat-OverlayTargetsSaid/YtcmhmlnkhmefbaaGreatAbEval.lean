import Derived.Test.YtcmhmlnkhmefbaaGreatAbDefs
import Derived.Deep.Quiet
set_option linter.unusedVariables false
namespace Go.Ab
inductive FS where
 |raw
 |fn (g:FuncId) (lI:List FS)
 |ptr (cells:List FS)
mutual
def SA:FS→PV→Option (List PV)
 |.raw,p=>some [p]
 |.fn g cs,.fn g' qs=>if g'=g then Fo cs qs else none
 |.ptr cs,.rp qs=>Fo cs qs
 |_,_=>none
def Fo:List FS→List PV→Option (List PV)
 |[],[]=>some []
 |s::ss,p::ps=>(SA s p).bind fun a=>(Fo ss ps).bind fun b=>some (a++b)
 |_,_=>none
end
mutual
def DG:FS→List PV→PV×List PV
 |.raw,[]=>(.bad,[])
 |.raw,p::r=>(p,r)
 |.fn g cs,l=>(.fn g (yp cs l).1,(yp cs l).2)
 |.ptr cs,l=>(.rp (yp cs l).1,(yp cs l).2)
def yp:List FS→List PV→List PV×List PV
 |[],l=>([],l)
 |s::ss,l=>((DG s l).1::(yp ss (DG s l).2).1,(yp ss (DG s l).2).2)
end
mutual
def FS.n:FS→Nat
 |.raw=>1
 |.fn _ cs=>Yk cs
 |.ptr cs=>Yk cs
def Yk:List FS→Nat
 |[]=>0
 |s::ss=>s.n+Yk ss
end
inductive Sh where
 |raw
 |int (q:IntKind)
 |bool
 |str
 |rs (sz:Nat)
 |rp (n:Nat)
 |fs (s:FS)
 |row (id off:Nat)
 |own (v:V)
inductive Pe where
 |box (cs:List Sh)
 |arr (sz:Nat) (et:TypeId)
 |nr (sz:Nat) (et:TypeId)
 |map (kt:TypeId)
 |nest (sz:Nat) (et:TypeId)
 |eU (kt e:TypeId)
 |loop
 |busy
 |iter (t:TypeId)
structure fB where
 aB:List (Nat×Sh)
 cd:List (Nat×Pe)
 fz:List (Nat×Nat):=[]
 bz:List (Nat×Nat×Nat):=[]
 bo:List (Nat×Nat×Nat×TypeId):=[]
 nz:List Nat:=[]
 ct:List (Nat×Nat):=[]
structure bL where
 run:{S R:Type}→(S→(S→Option R)→Option R)→S→Option R
 room:Nat→Bool
 qV:∀n,room n=true→(n:Int)≤IntKind.i64.max
def cD{S R:Type}(body:S→(S→Option R)→Option R):Nat→S→Option R
 |0,_=>none
 |n+1,s=>body s (cD body n)
abbrev YL:=(R:Type)→Nat→Nat→Nat→List V→Fr→Mem→(V→Fr→Mem→Option R)→Option R
def xj:YL:=fun _ _ _ _ _ _ _ _=>none
structure Env where
 P:Program
 ctx:FuncId→Option (List PV→Option PV)
 aD:Nat→Option (List PV)
 fid:FuncId
 fn:Func
 lp:bL
 hint:Nat→Nat→List fB
 u:Nat
 own:FuncId→Option (List PV→Option PV)
 inl:(R:Type)→FuncId→Nat→List V→Fr→Mem→(V→Fr→Mem→Option R)→Option R
 Vs:(R:Type)→FuncId→Nat→YL→List V→Fr→Mem→(V→Fr→Mem→Option R)→Option R
 yl:YL
 Vt:Bool:=false
 XF:FuncId→Option FS:=fun _=>none
 yq:Nat→Bool:=fun _=>false
section
variable {R:Type} (E:Env)
def dM(kt:TypeId)(p:PV)(a:Option R)(b:List PV→List PV→Option R):Option R:=
 match p with
 |.sn=>a
 |.rm sr ks vs=>if sr=kt then b ks vs else none
 |_=>none
def fG(t:TypeId)(p:PV)(k:PV→Option R):Option R:=
 match E.P.underlying t with
 |some (.int q)=>(asInt q p).bind fun n=>k (.int q n)
 |some .bool=>(asBool p).bind fun b=>k (.bool b)
 |some .string=>(bx p).bind fun s=>k (.str s)
 |some (.slice e)=>(ab (aO E.P e) p).bind fun es=>k (.rs (aO E.P e) es)
 |some (.struct _)=>(asAgg (aO E.P t) p).bind fun _=>k (.agg (aI (aO E.P t) p))
 |some (.array _ _)=>(asAgg (aO E.P t) p).bind fun _=>k (.agg (aI (aO E.P t) p))
 |some (.pointer _)=>match p with
  |.na=>k p
  |.rp _=>k p
  |_=>none
 |some (.map kt _)=>dM kt p (k .sn) fun ks vs=>k (.rm kt ks vs)
 |some (.func _ _ _)=>match p with
  |.xh=>k .xh
  |.fn g cs=>k (.fn g cs)
  |_=>none
 |some (.interface _)=>(Ll p).bind fun b=>k (.Sl b)
 |_=>none
def vW(t:TypeId)(v:V)(k:V→Option R):Option R:=
 match v with
 |.pv p=>fG E t p fun p=>k (.pv p)
 |.top=>none
 |v=>if(E.P.underlying t).isSome then k v else none
def yr:List TypeId→List PV→(List V→Option R)→Option R
 |[],[],k=>k []
 |t::ts,p::ps,k=>fG E t p fun q=>yr ts ps fun vs=>k (.pv q::vs)
 |_,_,_=>none
def yt(ts:List TypeId)(r:PV)(k:V→Option R):Option R:=
 match ts with
 |[]=>(bY 0 r).bind fun _=>k (.bj [])
 |[t]=>fG E t r fun q=>k (.pv q)
 |ts=>(bY ts.length r).bind fun vs=>yr E ts ((List.range ts.length).map fun j=>vs.getD j .bad) fun us=>k (.bj us)
def xl(fid:FuncId)(ts:List TypeId)(r:PV)(k:V→Option R):Option R:=
 match E.XF fid with
 |some s=>(SA s r).bind fun ls=>k (.pv (DG s ((List.range s.n).map fun j=>ls.getD j .bad)).1)
 |none=>yt E ts r k
def bA(f:Fr):Operand→V
 |.tmp t=>bif Nat.blt t E.fn.ntmps then f t else .top
 |.const c=>Ct c
 |.global g=>match E.aD g with|some cs=>.pv (.rp cs)|none=>.top
 |.func f=>.fn f []
def fresh(draw:Bool)(site:Nat)(b:bI)(f:Fr)(m:Mem)(k:Fr→Mem→bl→Option R):Option R:=
 match m site with
 |none=>k f (al m site b) [(true,site)]
 |some _=>if draw||b.names site then none else k (eO site f) (al (bB site m) site b) [(true,site)]
def nL:V→Option (List V)
 |.pv (.agg cs)=>some (cs.map .pv)
 |.agg cs=>some cs
 |_=>none
def df:Mem:=fun _=>none
def ku(op:BinOp)(t:TypeId)(a b:V)(k:PV→Option R):Option R:=
 match a,b with
 |.pv (.int q x),.pv (.int q' y)=>match op with
  |.shl=>if y<0 then none else k (.int q (q.wrap (x*2^(min y.toNat q.bits))))
  |.shr=>if y<0 then none else k (.int q (x.fdiv (2^(min y.toNat q.bits))))
  |op=>if q=q' then match op with
   |.add=>k (.int q (q.wrap (x+y)))
   |.sub=>k (.int q (q.wrap (x-y)))
   |.mul=>k (.int q (q.wrap (x*y)))
   |.quo=>if y=0 then none else k (.int q (q.wrap (x.tdiv y)))
   |.rem=>if y=0 then none else k (.int q (x.tmod y))
   |.and=>k (.int q (q.wrap (BitVec.ofInt q.bits x&&&BitVec.ofInt q.bits y).toNat))
   |.or=>k (.int q (q.wrap (BitVec.ofInt q.bits x|||BitVec.ofInt q.bits y).toNat))
   |.xor=>k (.int q (q.wrap (BitVec.ofInt q.bits x^^^BitVec.ofInt q.bits y).toNat))
   |.andNot=>k (.int q (q.wrap (BitVec.ofInt q.bits x&&& ~~~(BitVec.ofInt q.bits y)).toNat))
   |.eql=>k (.bool (x==y))
   |.neq=>k (.bool (x !=y))
   |.lss=>k (.bool (decide (x<y)))
   |.leq=>k (.bool (decide (x≤y)))
   |.gtr=>k (.bool (decide (x>y)))
   |.geq=>k (.bool (decide (x≥y)))
   |_=>none
   else none
 |.pv (.str x),.pv (.str y)=>match op with
  |.add=>if E.lp.room (x.length+y.length)=true then k (.str (x++y))else none
  |.eql=>k (.bool (x==y))
  |.neq=>k (.bool (!(x==y)))
  |.lss=>k (.bool (Op.bytesLess x y))
  |.leq=>k (.bool (Op.bytesLess x y||x==y))
  |.gtr=>k (.bool (!(Op.bytesLess x y||x==y)))
  |.geq=>k (.bool (!(Op.bytesLess x y)))
  |_=>none
 |.pv (.bool x),.pv (.bool y)=>match op,E.P.underlying t with
  |.eql,some .bool=>k (.bool (x==y))
  |.neq,some .bool=>k (.bool (!(x==y)))
  |_,_=>none
 |.pv .na,.pv .na=>match op,E.P.underlying t with
  |.eql,some (.pointer _)=>k (.bool true)
  |.neq,some (.pointer _)=>k (.bool false)
  |_,_=>none
 |.fn _ _,.pv .xh|.pv (.fn _ _),.pv .xh=>match op,E.P.underlying t with
  |.eql,some (.func _ _ _)=>k (.bool false)
  |.neq,some (.func _ _ _)=>k (.bool true)
  |_,_=>none
 |.pv (.rp _),.pv .na|.op _ _,.pv .na|.oe _ _ _,.pv .na=>match op,E.P.underlying t with
  |.eql,some (.pointer _)=>k (.bool false)
  |.neq,some (.pointer _)=>k (.bool true)
  |_,_=>none
 |a,b=>if aA E.P t then match pj E.P t,nL a,nL b with
  |some ks,some as,some bs=>match nK (iZ df 1) as,nK (iZ df 1) bs with
   |some as,some bs=>if jj ks as=true∧jj ks bs=true then match op with
    |.eql=>k (.bool (cV as bs))
    |.neq=>k (.bool (!(cV as bs)))
    |_=>none
    else none
   |_,_=>none
  |_,_,_=>none
  else none
def Aa:Operand→Bool
 |.const .nilIface=>true
 |_=>false
def Pf(op:BinOp)(t:TypeId)(a:V)(k:PV→Option R):Option R:=
 match a with
 |.pv (.Sl b)=>match op,E.P.underlying t with
  |.eql,some (.interface _)=>k (.bool (!b))
  |.neq,some (.interface _)=>k (.bool b)
  |_,_=>none
 |_=>none
def Fq(op:BinOp)(t:TypeId)(y:Operand)(a b:V)(k:PV→Option R):Option R:=bif Aa y then Pf E op t a k else ku E op t a b k
noncomputable def agree(a b:Option R):Option R:= @ite _ (a=b) (Classical.propDecidable _) a none
noncomputable def HZ(op:BinOp)(t:TypeId)(es:List PV)(k:Bool→Option R):Option R:=
 match op,E.P.underlying t with
 |.eql,some (.slice _)=>if es.isEmpty=true then agree (k true) (k false)else k false
 |.neq,some (.slice _)=>if es.isEmpty=true then agree (k false) (k true)else k true
 |_,_=>none
def xun(op:UnOp)(a:V)(k:PV→Option R):Option R:=
 match op,a with
 |.not,.pv (.bool b)=>k (.bool !b)
 |.neg,.pv (.int q n)=>k (.int q (q.wrap (0-n)))
 |.xor,.pv (.int q n)=>k (.int q (q.wrap (BitVec.ofInt q.bits (if q.signed then-1 else q.max)^^^BitVec.ofInt q.bits n).toNat))
 |_,_=>none
def Ac(s d:TypeId)(a:V)(k:PV→Option R):Option R:=
 match E.P.underlying s,E.P.underlying d,a with
 |some (.int q),some (.int q'),.pv (.int q'' n)=>if q''=q then(if q'=q then k (.int q n)else k (.int q' (q'.wrap n)))else none
 |some .string,some .string,.pv (.str s)=>k (.str s)
 |_,_,_=>none
def pH(s:Nat)(t:TypeId)(e:PV)(off:Nat)(k:V→Option R):Option R:=
 if aA E.P t then(if off+aO E.P t≤s then k (.pv (.agg (((aI s e).drop off).take (aO E.P t))))else none)
 else match(aI s e)[off]? with
  |some p=>fG E t p fun p=>k (.pv p)
  |none=>none
def pn:V→Option PV
 |.pv p=>some p
 |_=>none
def nM(own:Bool)(t:TypeId)(a:V)(m:Mem)(k:V→bl→Option R):Option R:=
 match a with
 |.pv (.rp cs)=>
  if aA E.P t then(if aO E.P t≤cs.length then k (.pv (.agg (cs.take (aO E.P t)))) []else none)
  else(cs.head?).bind fun p=>fG E t p fun p=>k (.pv p) []
 |.op id off=>match m id with
  |some (.box cs)=>
   if aA E.P t then(if off+aO E.P t≤cs.length then k (.agg ((cs.drop off).take (aO E.P t))) [(false,id)]else none)
   else match nK pn cs with
    |some ps=>(ps[off]?).bind fun p=>fG E t p fun p=>k (.pv p) [(false,id)]
    |none=>match cs[off]? with
     |some v=>vW E t v fun v=>k v [(false,id)]
     |none=>none
  |_=>none
 |.oe id i off=>match m id with
  |some (.arr s _ es)=>(es[i]?).bind fun e=>pH E s t e off fun v=>k v [(false,id)]
  |some (.nr s _ es)=>(es[i]?).bind fun e=>pH E s t e off fun v=>k v [(false,id)]
  |some (.nest _ _ es)=>if aA E.P t then none else(es[i]?).bind fun e=>
   if own then(match E.P.underlying t with
    |some (.slice et)=>(aT (aO E.P et) (cell e off)).bind fun _=>k (.sD id i off) [(false,id)]
    |_=>none)
   else fG E t (cell e off) fun p=>k (.pv p) [(false,id)]
  |_=>none
 |.vU id i off s j off2=>match m id with
  |some (.nest _ _ es)=>(es[i]?).bind fun e=>(aT s (cell e off)).bind fun rs=>(rs[j]?).bind fun q=>pH E s t q off2 fun v=>k v [(false,id)]
  |_=>none
 |_=>none
def over{T:Type}:List T→List T→List T
 |[],cs=>cs
 |x::new,[]=>x::over new []
 |x::new,_::cs=>x::over new cs
def bQ{T:Type}:List T→Nat→List T→List T
 |cs,0,new=>over new cs
 |[],_+1,new=>new
 |c::cs,off+1,new=>c::bQ cs off new
theorem DH{T:Type}:∀(new cs:List T),over new cs=new++cs.drop new.length
 |[],cs=>by simp[over]
 |x::new,[]=>by simp[over,DH new []]
 |x::new,_::cs=>by simp[over,DH new cs]
theorem dB{T:Type}:∀(cs:List T)(off:Nat)(new:List T),bQ cs off new=cs.take off++new++cs.drop (off+new.length)
 |cs,0,new=>by cases cs<;>simp[bQ,DH]
 |[],_+1,new=>by simp[bQ]
 |c::cs,off+1,new=>by rw[bQ,dB cs off new,show off+1+new.length=(off+new.length)+1 by omega];simp
def sE(draw:Bool)(m:Mem)(n:Nat)(agg:Bool)(v:V):Option (PV×Mem):=if draw then(match iN df n agg v with|some (p,_)=>some (p,m)|none=>none)else iN m n agg v
def setRow(s:Nat)(e:PV)(off:Nat)(p:PV):PV:=if s=1 then p else .agg ((aI s e).set off p)
def setCells(s:Nat)(e:PV)(off n:Nat)(p:PV):PV:=if off=0∧n=s then p else .agg (bQ (aI s e) off p.cells)
def qW(draw:Bool)(t:TypeId)(a x:V)(m:Mem)(k:Mem→bl→Option R):Option R:=
 match a with
 |.op id off=>match m id with
  |some (.box cs)=>match toCells (aO E.P t) x with
   |some new=>if off+aO E.P t≤cs.length∧0<aO E.P t then k (al m id (.box (bQ cs off new))) [(true,id)]else none
   |none=>none
  |_=>none
 |.oe id i off=>match sE draw m (aO E.P t) (aA E.P t) x with
  |some (p,m)=>match m id with
   |some (.arr s et es)=>(es[i]?).bind fun e=>
    if off=0∧aO E.P t=s∧0<s then k (al m id (.arr s et (es.set i p))) [(true,id)]
    else if off+aO E.P t≤s∧0<aO E.P t∧1<s then k (al m id (.arr s et (es.set i (.agg (bQ (aI s e) off p.cells))))) [(true,id)]
    else none
   |some (.nest s et es)=>(es[i]?).bind fun e=>if off+aO E.P t≤s∧0<aO E.P t∧1<s then k (al m id (.nest s et (es.set i (.agg (bQ (aI s e) off p.cells))))) [(true,id)]else none
   |_=>none
  |none=>none
 |.vU id i off s j off2=>match iN df (aO E.P t) (aA E.P t) x with
  |some (p,_)=>match m id with
   |some (.nest s0 et es)=>(es[i]?).bind fun e=>(aT s (cell e off)).bind fun rs=>(rs[j]?).bind fun q=>
    if off2+aO E.P t≤s∧0<aO E.P t∧off<s0 then k (al m id (.nest s0 et (es.set i (setRow s0 e off (.fK s (rs.set j (setCells s q off2 (aO E.P t) p))))))) [(true,id)]
    else none
   |_=>none
  |none=>none
 |_=>none
def zp(m:Mem)(x:V)(k:Nat→bl→Option R):Option R:=
 match x with
 |.pv (.rs _ es)=>k es.length []
 |.ba=>k 0 []
 |.ff id _ len=>match m id with
  |some (.arr _ _ _)=>k len [(false,id)]
  |some (.nr _ _ _)=>k len [(false,id)]
  |_=>none
 |.os id=>match m id with
  |some (.arr _ _ es)=>k es.length [(false,id)]
  |some (.nr _ _ es)=>k es.length [(false,id)]
  |some (.nest _ _ es)=>k es.length [(false,id)]
  |some (.box cs)=>if cs.length≤maxLen then k cs.length [(false,id)]else none
  |_=>none
 |_=>none
def MR(sz:Nat)(m:Mem)(x:V)(k:Nat→bl→Option R):Option R:=
 match x with
 |.sD id i off=>match m id with
  |some (.nest _ _ es)=>(es[i]?).bind fun e=>(aT sz (cell e off)).bind fun rs=>k rs.length [(false,id)]
  |_=>none
 |x=>zp m x k
def MS(m:Mem)(x:V)(k:Nat→bl→Option R):Option R:=
 match x with
 |.om id=>match m id with
  |some (.map _ es)=>if es.length≤maxLen then k es.length [(false,id)]else none
  |_=>none
 |.pv .sn=>k 0 []
 |_=>none
def Fs(t:TypeId)(x:V)(m:Mem)(k:V→bl→Option R):Option R:=
 match E.P.underlying t with
 |some (.array n _)=>if n≤maxLen then k (.pv (.int .i64 n)) []else none
 |some .string=>match x with
  |.pv (.str s)=>k (.pv (.int .i64 s.length)) []
  |_=>none
 |some (.slice e)=>MR (aO E.P e) m x fun n ft=>k (.pv (.int .i64 n)) ft
 |some (.map _ _)=>MS m x fun n ft=>k (.pv (.int .i64 n)) ft
 |_=>none
def eF(m:Mem)(sz:Nat):V→Option (List PV×bl)
 |.pv (.rs s es)=>if s=sz then some (es,[])else match es with|[]=>some ([],[])|_=>none
 |.ba=>some ([],[])
 |.os id=>match m id with
  |some (.arr s' _ es)=>if s'=sz then some (es,[(false,id)])else none
  |some (.nr s' _ es)=>if s'=sz then some (es,[(false,id)])else none
  |_=>none
 |.ff id lo len=>match m id with
  |some (.arr s' _ es)=>if s'=sz then some ((es.drop lo).take len,[(false,id)])else none
  |some (.nr s' _ es)=>if s'=sz then some ((es.drop lo).take len,[(false,id)])else none
  |_=>none
 |.sD id i off=>match m id with
  |some (.nest _ _ es)=>(es[i]?).bind fun e=>(aT sz (cell e off)).bind fun rs=>some (rs,[(false,id)])
  |_=>none
 |_=>none
def DJ(m:Mem)(sz:Nat)(x:V)(k:List PV→bl→Option R):Option R:=
 match x with
 |.sD id i off=>match m id with
  |some (.nest _ _ es)=>(es[i]?).bind fun e=>(aT sz (cell e off)).bind fun rs=>k rs [(false,id)]
  |_=>none
 |x=>match eF m sz x with
  |some (es,ft)=>k es ft
  |none=>none
def xm:List PV→Option Bytes
 |[]=>some []
 |.int .u8 n::r=>(xm r).map fun b=>UInt8.ofNat n.toNat::b
 |_=>none
def xn(s d:TypeId)(a:V)(m:Mem)(k:PV→bl→Option R):Option R:=
 match E.P.underlying s,E.P.underlying d with
 |some (.slice e),some .string=>match E.P.underlying e,eF m 1 a with
  |some (.int .u8),some (es,ft)=>(xm es).bind fun b=>k (.str b) ft
  |_,_=>none
 |_,_=>Ac E s d a fun p=>k p []
def ae(i:Int)(n:Nat):Prop:=0≤i∧i<(n:Int)
instance (i:Int) (n:Nat):Decidable (ae i n):=inferInstanceAs (Decidable (_∧_))
def dx(t:TypeId)(x ix:V)(m:Mem)(k:V→bl→Option R):Option R:=
 match ix with
 |.pv (.int _ i)=>match E.P.underlying t,x with
  |some (.slice e),.pv (.rs s es)=>if s=aO E.P e∧0<s then(bk es i).bind fun p=>k (.pv (.rp (aI s p))) []else none
  |some (.slice e),.os id=>match m id with
   |some (.arr s _ es)=>if s=aO E.P e∧0<s then(if ae i es.length then k (.oe id i.toNat 0) [(false,id)]else none)else none
   |some (.nr s _ es)=>if s=aO E.P e∧0<s then(if ae i es.length then k (.oe id i.toNat 0) [(false,id)]else none)else none
   |some (.nest s _ es)=>if s=aO E.P e∧0<s then(if ae i es.length then k (.oe id i.toNat 0) [(false,id)]else none)else none
   |some (.box cs)=>if aO E.P e=1∧ae i cs.length then k (.op id i.toNat) [(false,id)]else none
   |_=>none
  |some (.slice e),.sD id i0 off=>match m id with
   |some (.nest _ _ es)=>if 0<aO E.P e then(es[i0]?).bind fun e0=>(aT (aO E.P e) (cell e0 off)).bind fun rs=>if ae i rs.length then k (.vU id i0 off (aO E.P e) i.toNat 0) [(false,id)]else none else none
   |_=>none
  |some (.slice e),.ff id lo len=>match m id with
   |some (.arr s _ _)=>if s=aO E.P e∧0<s then(if ae i len then k (.oe id (lo+i.toNat) 0) [(false,id)]else none)else none
   |some (.nr s _ _)=>if s=aO E.P e∧0<s then(if ae i len then k (.oe id (lo+i.toNat) 0) [(false,id)]else none)else none
   |_=>none
  |some (.array n e),.op id off=>if ae i n∧0<aO E.P e then k (.op id (off+i.toNat*aO E.P e)) []else none
  |some (.array n e),.pv (.rp cs)=>if ae i n∧0<aO E.P e then k (.pv (.rp (cs.drop (i.toNat*aO E.P e)))) []else none
  |some (.array n e),.oe id j off=>if ae i n∧0<aO E.P e then k (.oe id j (off+i.toNat*aO E.P e)) []else none
  |_,_=>none
 |_=>none
def vX(s:TypeId)(j:Nat):Option (Nat×TypeId):=
 match E.P.underlying s with
 |some (.struct fs)=>match fs[j]? with
  |some f=>if aO E.P f.type=0 then none else some (f.offset,f.type)
  |none=>none
 |_=>none
def iu(s:TypeId)(x:V)(j:Nat)(k:V→Option R):Option R:=
 match vX E s j with
 |some (o,_)=>match x with
  |.pv (.rp cs)=>k (.pv (.rp (cs.drop o)))
  |.op id off=>k (.op id (off+o))
  |.oe id i off=>k (.oe id i (off+o))
  |.vU id i off s j off2=>k (.vU id i off s j (off2+o))
  |_=>none
 |none=>none
def Ad(t:TypeId)(cs:List V)(off:Nat)(k:V→Option R):Option R:=
 if aA E.P t then(if off+aO E.P t≤cs.length then k (.agg ((cs.drop off).take (aO E.P t)))else none)
 else match cs[off]? with
  |some v=>vW E t v k
  |none=>none
def Ae(s:TypeId)(x:V)(j:Nat)(k:V→Option R):Option R:=
 match vX E s j,nL x with
 |some (o,t),some cs=>Ad E t cs o k
 |_,_=>none
def xo(t:TypeId)(x ix:V)(k:V→Option R):Option R:=
 match ix with
 |.pv (.int _ i)=>match E.P.underlying t,x with
  |some .string,.pv (.str s)=>(MP s i).bind fun b=>k (.pv (.int .u8 b.toNat))
  |some (.array n et),x=>match nL x with
   |some cs=>if ae i n∧0<aO E.P et then Ad E et cs (i.toNat*aO E.P et) k else none
   |none=>none
  |_,_=>none
 |_=>none
def gV(d:Int):Option V→Option Int
 |none=>some d
 |some (.pv (.int _ i))=>some i
 |_=>none
def qX(t:TypeId)(x:V)(lo hi mx:Option V)(m:Mem)(k:V→bl→Option R):Option R:=
 match mx with
 |some mx=>match E.P.underlying t,x with
  |some (.slice e),.os id=>match m id with
   |some (.arr s _ es)=>match lo,hi,mx with
    |none,some (.pv (.int _ h)),.pv (.int _ c)=>if 0≤h∧h≤c∧c≤(es.length:Int)∧s=aO E.P e then k (.ff id 0 h.toNat) [(false,id)]else none
    |_,_,_=>none
   |_=>none
  |_,_=>none
 |none=>match E.P.underlying t,x with
  |some .string,.pv (.str s)=>match gV 0 lo,gV s.length hi with
   |some l,some h=>if 0≤l∧l≤h∧h≤(s.length:Int)then k (.pv (.str ((s.take h.toNat).drop l.toNat))) []else none
   |_,_=>none
  |some (.slice e),.pv (.rs sz es)=>match gV 0 lo,gV es.length hi with
   |some l,some h=>if 0≤l∧l≤h∧h≤(es.length:Int)∧sz=aO E.P e∧aO E.P e≠0 then k (.pv (.rs sz ((es.take h.toNat).drop l.toNat))) []else none
   |_,_=>none
  |some (.slice e),.os id=>match m id with
   |some (.arr s _ es)=>match gV 0 lo,gV es.length hi with
    |some l,some h=>if 0≤l∧l≤h∧h≤(es.length:Int)∧s=aO E.P e then k (.ff id l.toNat (h.toNat-l.toNat)) [(false,id)]else none
    |_,_=>none
   |some (.nr s _ es)=>match gV 0 lo,gV es.length hi with
    |some l,some h=>if 0≤l∧l≤h∧h≤(es.length:Int)∧s=aO E.P e then k (.ff id l.toNat (h.toNat-l.toNat)) [(false,id)]else none
    |_,_=>none
   |_=>none
  |_,_=>none
def placesOf(fs:List Field)(j:Nat):Option (Nat×Nat):=(fs[j]?).map fun f=>(f.offset,aO E.P f.type)
def Cu(place:Nat→Option (Nat×Nat))(cs:List V):List (Nat×V)→Option (List V)
 |[]=>some cs
 |(i,v)::rest=>match place i with
  |some (off,size)=>match toCells size v with
   |some new=>if off+size≤cs.length then Cu place (bQ cs off new) rest else none
   |none=>none
  |none=>none
def dm(t:TypeId):Option (List V):=match zeroV E.P t with|some v=>toCells (aO E.P t) v|none=>none
def xp(t:TypeId)(parts:List (Nat×V))(k:V→Option R):Option R:=
 match dm E t,E.P.underlying t with
 |some z,some (.struct fs)=>if fs.toList.all (fun f=>(E.P.info? f.type).isSome)then match Cu (placesOf E fs.toList) z parts with
  |some cs=>k (.agg cs)
  |none=>none
  else none
 |some z,some (.array _ e)=>if 0<aO E.P e then match Cu (fun i=>some (i*aO E.P e,aO E.P e)) z parts with
  |some cs=>k (.agg cs)
  |none=>none
  else none
 |_,_=>none
def eu(m:Mem)(n:Nat)(agg:Bool):Nat→List (Nat×V)→Option (List PV×Mem)
 |_,[]=>some ([],m)
 |i,(j,v)::r=>if i=j then match iN m n agg v with
  |some (p,m)=>match eu m n agg (i+1) r with
   |some (ps,m)=>some (p::ps,m)
   |none=>none
  |none=>none
  else none
def Af:Nat→List (Nat×V)→Option (List V)
 |_,[]=>some []
 |i,(j,v)::r=>if i=j then match toCells 1 v with
  |some cs=>match Af (i+1) r with
   |some us=>some (cs++us)
   |none=>none
  |none=>none
  else none
def Ln(t:TypeId):Bool:=match E.P.underlying t with|some (.func _ _ _)=>true|_=>false
def xq(t:TypeId):Option PV:=match zeroV E.P t with
 |some v=>match iZ df 2 v with
  |some p=>if aA E.P t=p.isAgg∧p.cells.length=aO E.P t∧p.plain=true then some p else none
  |none=>none
 |none=>none
def keyOf(kt:TypeId)(v:V):Option PV:=
 match pj E.P kt with
 |some ks=>
  if aA E.P kt then(match nL v with
   |some cs=>match nK (iZ df 1) cs with
    |some ps=>if jj ks ps then some (.agg ps)else none
    |none=>none
   |none=>none)
  else match v with
   |.pv p=>if jj ks [p]then some p else none
   |_=>none
 |none=>none
def Ft(site:Nat)(t:TypeId)(x ix:V)(m:Mem)(k:V→Mem→bl→Option R):Option R:=
 match E.P.underlying t with
 |some (.map kt et)=>match E.P.underlying et with
  |some (.slice e)=>match x,zeroV E.P et with
   |.om id,some .ba=>match m id,m site with
    |some (.eU sr e' es),none=>if sr=kt∧e'=e∧0<aO E.P e then(keyOf E kt ix).bind fun key=>(Fm (aO E.P e) key es).bind fun rs=>k (.os site) (al (al m id (.eU kt e (pg key es))) site (.arr (aO E.P e) e rs)) [(true,id),(true,site)]else none
    |_,_=>none
   |_,_=>none
  |_=>none
 |_=>none
def qY(t:TypeId)(x ix:V)(ok:Bool)(m:Mem)(k:V→bl→Option R):Option R:=
 match E.P.underlying t with
 |some (.map kt et)=>match xq E et with
  |some z=>match x with
   |.om id=>match m id with
    |some (.map sr es)=>if sr=kt then(keyOf E kt ix).bind fun key=>fG E et (dH key z es) fun v=>k (if ok then .bj [.pv v,.pv (.bool (so key es))]else .pv v) [(false,id)]else none
    |_=>none
   |.pv p=>dM kt p ((keyOf E kt ix).bind fun _=>k (if ok then .bj [.pv z,.pv (.bool false)]else .pv z) []) fun ks vs=>(keyOf E kt ix).bind fun key=>fG E et (dH key z (ks.zip vs)) fun v=>k (if ok then .bj [.pv v,.pv (.bool (so key (ks.zip vs)))]else .pv v) []
   |_=>none
  |none=>none
 |_=>none
def vY(draw:Bool)(m:Mem)(v:V):Option (PV×Mem):=if draw then(match qU df v with|some (p,_)=>some (p,m)|none=>none)else qU m v
def lL(draw:Bool)(t:TypeId)(x key val:V)(m:Mem)(k:Mem→bl→Option R):Option R:=
 match E.P.underlying t with
 |some (.map kt _)=>match x with
  |.om id=>match vY draw m val with
   |some (v,m)=>match m id with
    |some (.map sr es)=>if sr=kt then(keyOf E kt key).bind fun key=>k (al m id (.map kt (eN key v es))) [(true,id)]else none
    |_=>none
   |none=>none
  |_=>none
 |_=>none
def aa:Nat:=140737488355328
def jl(m:Mem):Nat→List V→Option (List PV×Option (Nat×Nat))
 |_,[]=>some ([],none)
 |j,.os id::r=>match m id with
  |some (.arr s _ es)=>match jl m (j+1) r with
   |some (ps,none)=>some (.fK s es::ps,some (j,id))
   |_=>none
  |_=>none
 |j,v::r=>match iZ df 1 v with
  |some p=>match jl m (j+1) r with
   |some (ps,t)=>some (p::ps,t)
   |none=>none
  |none=>none
def elemOf(agg:Bool)(ps:List PV):Option PV:=if agg then some (.agg ps)else match ps with|[p]=>some p|_=>none
inductive Sp where
 |st (id i off s:Nat) (et:TypeId) (es ps:List PV) (id2:Nat)
 |app (id s:Nat) (et:TypeId) (es new:List PV) (src:Option Nat) (rd:bl)
 |lit (s:Nat) (et:TypeId) (p:PV) (id2:Nat)
 |upd (id:Nat) (kt e:TypeId) (es:List (PV×PV)) (key:PV) (s:Nat) (rs:List PV) (id2:Nat)
def vf(site:Nat)(o:Oper)(f:Fr)(m:Mem):Option Sp:=
 match o.op with
 |.store t a x=>match bA E f a with
  |.oe id i off=>match m id with
   |some (.nest s et es)=>match toCells (aO E.P t) (bA E f x)with
    |some cs=>match jl m 0 cs with
     |some (ps,some (_,id2))=>if off+aO E.P t≤s&&0<aO E.P t&& !(Nat.beq id2 id)then some (.st id i off s et es ps id2)else none
     |_=>none
    |none=>none
   |_=>none
  |_=>none
 |.buildSlice t len parts=>match E.P.underlying t,parts.toList.map fun(i,x)=>(i,bA E f x)with
  |some (.slice e),[(0,v)]=>match toCells (aO E.P e) v with
   |some cs=>match jl m 0 cs,m site with
    |some (ps,some (_,id2)),none=>match elemOf (aA E.P e) ps with
     |some p=>if Nat.beq len 1&&0<aO E.P e&&aO E.P e≤16777216&&(dm E e).isSome then some (.lit (aO E.P e) e p id2)else none
     |none=>none
    |_,_=>none
   |none=>none
  |_,_=>none
 |.call c=>match c.callee,c.args.toList.map (bA E f),c.argTypes.toList with
  |.builtin .append,[.os id,x],[t,t']=>match E.P.underlying t,m id with
   |some (.slice e),some (.nest s et es)=>if et=e&&s=aO E.P e&&decide (t'=t)&&(dm E e).isSome&&0<aO E.P e&&0<Cc E.P e then(match x with
    |.os nb=>match m nb with
     |some (.nest s' Ag new)=>if Nat.beq s' s&&decide (Ag=et)&& !(Nat.beq nb id)then some (.app id s et es new (some nb) [])else none
     |_=>match eF m s x with
      |some (new,rd)=>if x.has id then none else some (.app id s et es new none rd)
      |none=>none
    |_=>match eF m s x with
     |some (new,rd)=>if x.has id then none else some (.app id s et es new none rd)
     |none=>none)else none
   |_,_=>none
  |_,_,_=>none
 |.mapUpdate t x key v=>match E.P.underlying t,bA E f x,bA E f v with
  |some (.map kt _),.om id,.os id2=>match m id,m id2,keyOf E kt (bA E f key)with
   |some (.eU sr e es),some (.arr s e' rs),some key=>if decide (sr=kt)&&decide (e'=e)&&Nat.beq s (aO E.P e)then some (.upd id kt e es key s rs id2)else none
   |_,_,_=>none
  |_,_,_=>none
 |_=>none
def Sp.info(site:Nat):Sp→Kl×bl
 |.st id _ _ _ _ _ _ id2=>([(true,id2),(false,id)],[(true,id),(true,id2)])
 |.app id _ _ _ _ (some id2) _=>([(true,id2),(true,id)],[(true,id),(true,id2)])
 |.app id _ _ _ _ none rd=>([(true,id)],(true,id)::rd)
 |.lit _ _ _ id2=>([(true,id2)],[(true,site),(true,id2)])
 |.upd id _ _ _ _ _ _ id2=>([(true,id2),(false,id)],[(true,id),(true,id2)])
def Uf(site:Nat)(sp:Sp)(f:Fr)(m:Mem)(k:V→Fr→Mem→bl→Option R):Option R:=
 match sp with
 |.st id i off s et es ps id2=>(es[i]?).bind fun e=>k .top (kf [(true,id2),(false,id)] f) (qm [(id,.nest s et (es.set i (if s=1 then ps.headD .bad else .agg (bQ (aI s e) off ps))))] (km [(true,id2),(false,id)] m)) [(true,id),(true,id2)]
 |.app id s et es new src rd=>if(es++new).length*Cc E.P et≤aa then k (.os id) (kf (Sp.app id s et es new src rd|>.info site).1 f) (qm [(id,.nest s et (es++new))] (km (Sp.app id s et es new src rd|>.info site).1 m)) (Sp.app id s et es new src rd|>.info site).2 else none
 |.lit s et p id2=>k (.os site) (kf [(true,id2)] f) (qm [(site,.nest s et [p])] (km [(true,id2)] m)) [(true,site),(true,id2)]
 |.upd id kt e es key s rs id2=>k .top (kf [(true,id2),(false,id)] f) (qm [(id,.eU kt e (eN key (.fK s rs) es))] (km [(true,id2),(false,id)] m)) [(true,id),(true,id2)]
def vZ(draw:Bool)(site:Nat)(t t':TypeId)(s x:V)(f:Fr)(m:Mem)(k:V→Fr→Mem→Option R):Option R:=
 if draw|| !(decide (t'=t))then none else
 match E.P.underlying t with
 |some (.slice e)=>if(dm E e).isNone then none else match eF m (aO E.P e) x with
  |some (new,_)=>match s with
   |.ba=>if new.length*Cc E.P e≤aa∧0<Cc E.P e∧0<aO E.P e then fresh draw site (.arr (aO E.P e) e new) f m (fun f m _=>k (.os site) f m)else none
   |.os id=>match m id with
    |some (.arr sz et es)=>if et=e∧sz=aO E.P e∧x.has id=false then(if(es++new).length*Cc E.P e≤aa∧0<Cc E.P e then fresh draw id (.arr sz e (es++new)) (eO id f) (aX (bB id m) id) (fun f m _=>k (.os id) f m)else none)else none
    |_=>none
   |_=>none
  |none=>none
 |_=>none
def Fu(t:TypeId)(d x:V)(m:Mem)(k:V→Mem→bl→Option R):Option R:=
 match E.P.underlying t with
 |some (.slice e)=>match d with
  |.os id=>match m id with
   |some (.arr sz et es)=>if sz=aO E.P e∧x.has id=false then DJ m sz x fun new ft=>k (.pv (.int .i64 (min new.length es.length:Nat))) (al m id (.arr sz et (new.take es.length++es.drop new.length))) ((true,id)::ft)else none
   |_=>none
  |_=>none
 |_=>none
def Ah(t:TypeId)(x:V)(m:Mem)(k:V→Mem→bl→Option R):Option R:=
 match E.P.underlying t with
 |some (.slice e)=>match x,xq E e with
  |.ff id lo len,some z=>match m id with
   |some (.arr sz et es)=>if sz=aO E.P e∧et=e∧lo+len≤es.length∧0<aO E.P e then k .top (al m id (.arr sz et (es.take lo++(List.replicate len z++es.drop (lo+len))))) [(true,id)]else none
   |_=>none
  |_,_=>none
 |_=>none
def nN(draw:Bool)(site:Nat)(t:TypeId)(len cap:V)(f:Fr)(m:Mem)(k:V→Fr→Mem→bl→Option R):Option R:=
 match E.P.underlying t,len,cap with
 |some (.slice e),.pv (.int _ n),.pv (.int _ c)=>match xq E e with
  |some z=>if 0≤n∧n≤c∧c.toNat*Cc E.P e≤aa∧0<Cc E.P e∧0<aO E.P e then fresh draw site (.arr (aO E.P e) e (List.replicate n.toNat z)) f m (fun f m ft=>k (.os site) f m ft)else none
  |none=>none
 |_,_,_=>none
def Fv(a b:V)(k:PV→Option R):Option R:=match a,b with
 |.pv (.int q x),.pv (.int q' y)=>if q=q' then k (.int q (if y<x then y else x))else none
 |_,_=>none
def yu(a b:V)(k:PV→Option R):Option R:=match a,b with
 |.pv (.int q x),.pv (.int q' y)=>if q=q' then k (.int q (if y>x then y else x))else none
 |_,_=>none
def Fx(a b c d:V)(k:PV→Option R):Option R:=yu a b fun p=>yu (.pv p) c fun p=>yu (.pv p) d k
def tT(t:TypeId):Bool:=match E.P.underlying t with|some (.int _)|some .bool|some .string=>true|_=>false
def gn(m:Mem):List V→Option (List PV×Mem)
 |[]=>some ([],m)
 |v::r=>match qU m v with
  |some (p,m)=>match gn m r with
   |some (ps,m)=>some (p::ps,m)
   |none=>none
  |none=>none
def Cv:PV→PV
 |.int q n=>.int q n
 |.bool b=>.bool b
 |.str s=>.str s
 |_=>.bad
def rZ(draw:Bool)(site:Nat)(fid:FuncId)(args:List V)(f:Fr)(m:Mem)(k:V→Fr→Mem→bl→Option R):Option R:=
 match E.ctx fid with
 |some M=>match E.P.funcs[fid]? with
  |some fn=>
   if fn.resultTypes.toList.all (tT E)then(match nK (iZ m eE) args with
     |some ps=>(M ps).bind fun r=>yt E fn.resultTypes.toList r fun v=>k v f m ((gm (cY m eE) args).map fun i=>(false,i))
     |none=>none)
   else(match gn (if draw then df else m) args with
     |some (ps,m')=>(M ps).bind fun r=>xl E fid fn.resultTypes.toList r fun v=>k v f (if draw then m else m') (if draw then[]else[(true,0)])
     |none=>none)
  |none=>none
 |none=>match E.own fid with
  |some M=>match E.P.funcs[fid]? with
   |some fn=>match fn.resultTypes.toList with
    |[t]=>match E.P.underlying t with
     |some (.slice e)=>if tT E e=true∧aO E.P e=1 then(match nK (iZ m eE) args with
      |some ps=>(M ps).bind fun r=>(ab (aO E.P e) r).bind fun es=>fresh draw site (.arr (aO E.P e) e (es.map Cv)) f m fun f m1 ft=>k (.os site) f m1 (ft++(gm (cY m eE) args).map fun i=>(false,i))
      |none=>none)
      else match gn (if draw then df else m) args with
      |some (ps,m')=>(M ps).bind fun r=>(ab (aO E.P e) r).bind fun es=>fresh draw site (.arr (aO E.P e) e es) f (if draw then m else m') fun f m ft=>k (.os site) f m ft
      |none=>none
     |_=>none
    |_=>none
   |none=>none
  |none=>if draw then none else E.inl R fid (site*4096+fid) args f m fun v f m=>k v f m [(true,0)]
def Pg(f:TypeId→Option (List TypeId)):List Field→Option (List TypeId)
 |[]=>some []
 |x::r=>(f x.type).bind fun a=>(Pg f r).bind fun b=>some (a++b)
def Ph(l:List TypeId):Nat→List TypeId
 |0=>[]
 |n+1=>l++Ph l n
def Ai(P:Program):Nat→TypeId→Option (List TypeId)
 |0,_=>none
 |d+1,t=>match P.underlying t with
  |some (.struct fs)=>Pg (Ai P d) fs.toList
  |some (.array n e)=>(Ai P d e).bind fun l=>some (Ph l n)
  |some _=>some [t]
  |none=>none
def sc(n:Nat)(args:List V)(f:Fr):Fr:=fun t=>bif Nat.blt t n then args.getD t .top else f (t-n)
def sF(n:Nat)(f:Fr):Fr:=fun t=>f (t+n)
def Pj:V→Bool
 |.ba=>true
 |_=>false
def qq(site j:Nat):Nat:=site+(j+1)*1606938044258990275541962092341162602522202993782792835301376
def tU(E:Env){R:Type}(site:Nat):List TypeId→Nat→Fr→Mem→(Fr→Mem→Option R)→Option R
 |[],_,F,m,k=>k F m
 |t::ts,j,F,m,k=>match F j with
  |.ba=>match E.P.underlying t with
   |some (.slice e)=>if 0<aO E.P e then fresh false (qq site j) (.arr (aO E.P e) e []) F m fun F m _=>tU E site ts (j+1) (fg F j (.os (qq site j))) m k else none
   |_=>none
  |_=>tU E site ts (j+1) F m k
def Yl(E:Env)(t:TypeId):Bool:=match E.P.underlying t with|some (.slice _)=>true|_=>false
def DK(f:Fr):Option Operand→Bool
 |none=>true
 |some x=>match bA E f x with|.pv (.int _ _)=>true|_=>false
noncomputable def po(n:Nat)(g:Nat→Option R):Option R:= @dite _ (∃r,∀i,i<n→g i=some r) (Classical.propDecidable _) (fun h=>some (Classical.choose h)) fun _=>none
def H0(site:Nat)(t:TypeId)(x:V)(f:Fr)(m:Mem)(k:V→Fr→Mem→Option R):Option R:=
 match E.P.underlying t with
 |some (.map kt _)=>match x with
  |.om id=>match m id with
   |some (.map sr es)=>if sr=kt then fresh false site (.iter t es none) (eO id f) (aX (bB id m) id) fun f m _=>k (.it site) f m else none
   |_=>none
  |_=>none
 |_=>none
noncomputable def Pk(x:V)(f:Fr)(m:Mem)(k:V→Fr→Mem→Option R):Option R:=
 match x with
 |.it id=>match m id with
  |some (.iter t es _)=>match E.P.underlying t with
   |some (.map kt et)=>if es.isEmpty=true then k (.bj [.pv (.bool false)]) f m else po es.length fun i=>(es[i]?).bind fun e=>fG E kt e.1 fun a=>fG E et e.2 fun b=>k (.bj [.pv (.bool true),.pv a,.pv b]) f (al m id (.iter t (es.eraseIdx i) (some (a,b))))
   |_=>none
  |_=>none
 |_=>none
def H2(x:V)(m:Mem)(k:V→Mem→Option R):Option R:=
 match x with
 |.it id=>match m id with
  |some (.iter t es (some (a,b)))=>k (.bj [.pv a,.pv b]) (al m id (.iter t es none))
  |_=>none
 |_=>none
def H3:Op→Bool
 |.range .. =>true
 |.next .. =>true
 |.entry .. =>true
 |_=>false
noncomputable def cW(draw:Bool)(site:Nat)(o:Oper)(f:Fr)(m:Mem)(k:V→Fr→Mem→bl→Option R):Option R:=
 match o.op with
 |.move x=>k (bA E f x) f m []
 |.assign x=>match bA E f x with
  |.ba=>match E.P.underlying o.type with
   |some (.slice e)=>if 0<aO E.P e then fresh draw site (.arr (aO E.P e) e []) f m fun f m ft=>k (.os site) f m ft else none
   |_=>k .ba f m []
  |v=>k v f m []
 |.pick c a b=>match bA E f c with
  |.pv (.bool t)=>if t then k (bA E f a) f m []else k (bA E f b) f m []
  |_=>none
 |.alloc t=>match dm E t with
  |some cs=>if !draw&&Yl E t then tU E site [t] 0 (sc cs.length cs f) m fun F m=>fresh false site (.box ((List.range cs.length).map F)) (sF cs.length F) m fun f m ft=>k (.op site 0) f m ft else fresh draw site (.box cs) f m fun f m ft=>k (.op site 0) f m ft
  |none=>none
 |.box t x=>match toCells (aO E.P t) (bA E f x)with
  |some cs=>if !draw&&cs.any Pj then(match Ai E.P 8 t with
   |some ts=>if ts.length=cs.length then tU E site ts 0 (sc cs.length cs f) m fun F m=>fresh false site (.box ((List.range cs.length).map F)) (sF cs.length F) m fun f m ft=>k (.op site 0) f m ft else none
   |none=>none)else fresh draw site (.box cs) f m fun f m ft=>k (.op site 0) f m ft
  |none=>none
 |.build t parts=>xp E t (parts.toList.map fun(i,x)=>(i,bA E f x)) fun v=>k v f m []
 |.buildSlice t len parts=>match E.P.underlying t with
  |some (.slice e)=>if Ln E e then(match Af 0 (parts.toList.map fun(i,x)=>(i,bA E f x))with
   |some cs=>if parts.size=len∧aO E.P e=1∧len≤16777216∧(dm E e).isSome=true then fresh draw site (.box cs) f m fun f m ft=>k (.os site) f m ft else none
   |none=>none)
   else if E.yq (site+1000000000000000000000000000000)then(match eu df (aO E.P e) (aA E.P e) 0 (parts.toList.map fun(i,x)=>(i,bA E f x))with
   |some (es,_)=>if es.length=len∧0<aO E.P e∧len*aO E.P e≤16777216∧(dm E e).isSome=true then k (.pv (.rs (aO E.P e) es)) f m []else none
   |none=>none)
   else match eu (if draw then df else m) (aO E.P e) (aA E.P e) 0 (parts.toList.map fun(i,x)=>(i,bA E f x))with
   |some (es,m1)=>if es.length=len∧0<aO E.P e∧len*aO E.P e≤16777216∧(dm E e).isSome=true then fresh draw site (.arr (aO E.P e) e es) f (if draw then m else m1) fun f m ft=>k (.os site) f m ft else none
   |none=>none
  |_=>none
 |.load t a=>nM E (E.yq site) t (bA E f a) m fun v ft=>k v f m ft
 |.store t a x=>qW E draw t (bA E f a) (bA E f x) m fun m ft=>k .top f m ft
 |.nilCheck x=>match bA E f x with
  |.pv (.rp cs)=>k (.pv (.rp cs)) f m []
  |.op id off=>k (.op id off) f m []
  |.oe id i off=>k (.oe id i off) f m []
  |.vU id i off s j off2=>k (.vU id i off s j off2) f m []
  |.fn g cs=>k (.fn g cs) f m []
  |.pv (.fn g cs)=>k (.pv (.fn g cs)) f m []
  |_=>none
 |.binOp op t x y _=>match bA E f x,bA E f y with
  |.pv (.rs _ es),.ba=>if draw then none else HZ E op t es fun b=>k (.pv (.bool b)) f m [(true,0)]
  |a,b=>Fq E op t y a b fun p=>k (.pv p) f m []
 |.unOp op _ x=>xun op (bA E f x) fun p=>k (.pv p) f m []
 |.convert s d x=>xn E s d (bA E f x) m fun p ft=>k (.pv p) f m ft
 |.makeFunc (.func g) first lI=>if first.isEmpty then k (.fn g (lI.toList.map (bA E f))) f m []else none
 |.makeMap t hint=>if DK E f hint=true then match E.P.underlying t with
  |some (.map kt et)=>if(pj E.P kt).isSome then(if E.yq site then(match E.P.underlying et with
   |some (.slice e)=>fresh draw site (.eU kt e []) f m fun f m ft=>k (.om site) f m ft
   |_=>none)
   else fresh draw site (.map kt []) f m fun f m ft=>k (.om site) f m ft)else none
  |_=>none
  else none
 |.makeSlice t l c=>nN E draw site t (bA E f l) (bA E f c) f m k
 |.slice t x lo hi mx=>qX E t (bA E f x) (lo.map (bA E f)) (hi.map (bA E f)) (mx.map (bA E f)) m fun v ft=>k v f m ft
 |.fieldAddr s x j=>iu E s (bA E f x) j fun v=>k v f m []
 |.field s x j=>Ae E s (bA E f x) j fun v=>k v f m []
 |.indexAddr t x ix=>dx E t (bA E f x) (bA E f ix) m fun v ft=>k v f m ft
 |.index t x ix=>xo E t (bA E f x) (bA E f ix) fun v=>k v f m []
 |.lookup t x ix ok=>if E.yq site&& !ok then Ft E site t (bA E f x) (bA E f ix) m fun v m ft=>k v f m ft else qY E t (bA E f x) (bA E f ix) ok m fun v ft=>k v f m ft
 |.mapUpdate t x key v=>lL E draw t (bA E f x) (bA E f key) (bA E f v) m fun m ft=>k .top f m ft
 |.insert t x key v=>lL E draw t (bA E f x) (bA E f key) (bA E f v) m fun m ft=>k .top f m ft
 |.range t x=>if draw then none else H0 E site t (bA E f x) f m fun v f m=>k v f m [(true,0)]
 |.next x s=>if draw||s then none else Pk E (bA E f x) f m fun v f m=>k v f m [(true,0)]
 |.entry x=>if draw then none else H2 (bA E f x) m fun v m=>k v f m [(true,0)]
 |.extract t i=>match bA E f t with
  |.bj vs=>match vs[i]? with
   |some v=>k v f m []
   |none=>none
  |_=>none
 |.call c=>match c.callee,c.args.toList.map (bA E f)with
  |.builtin .len,[x]=>match c.argTypes.toList with
   |[t]=>Fs E t x m fun v ft=>k v f m ft
   |_=>none
  |.builtin .append,[s,x]=>match c.argTypes.toList with
   |[t,t']=>vZ E draw site t t' s x f m fun v f m=>k v f m [(true,0)]
   |_=>none
  |.builtin .copy,[d,x]=>match c.argTypes.toList with
   |t::_=>Fu E t d x m fun v m ft=>k v f m ft
   |_=>none
  |.builtin .clear,[x]=>match c.argTypes.toList with
   |t::_=>Ah E t x m fun v m ft=>k v f m ft
   |_=>none
  |.builtin .min,[a,b]=>Fv a b fun p=>k (.pv p) f m []
  |.builtin .max,[a,b]=>yu a b fun p=>k (.pv p) f m []
  |.builtin .max,[a,b,c,d]=>Fx a b c d fun p=>k (.pv p) f m []
  |.value (.func g),args=>rZ E draw site g args f m k
  |.value (.tmp t),args=>match bA E f (.tmp t)with
   |.fn g lI=>rZ E draw site g (args++lI) f m k
   |.pv (.fn g lI)=>rZ E draw site g (args++lI.map .pv) f m k
   |.yl id=>if draw then none else E.yl R E.fn.ntmps site id args f m fun v f m=>k v f m [(true,0)]
   |_=>none
  |_,_=>none
 |_=>none
noncomputable def Fy(draw:Bool)(site:Nat)(o:Oper)(f:Fr)(m:Mem)(k:V→Fr→Mem→bl→Option R):Option R:=
 match(bif draw then none else bif E.yq site then vf E site o f m else none)with
 |some sp=>Uf E site sp f m k
 |none=>cW E draw site o f m k
def eV(o:Oper):Bool:=
 match o.op with
 |.move _|.assign _|.pick .. |.load .. |.nilCheck _|.binOp .. |.unOp .. |.convert .. |.slice .. |.fieldAddr .. |.field .. |.indexAddr .. |.index .. |.lookup .. |.extract .. |.build .. =>true
 |.call {callee:=.builtin .len,.. }|.call {callee:=.builtin .min,.. }|.call {callee:=.builtin .max,.. }=>true
 |.call {callee:=.value _,.. }=>true
 |_=>false
def v7:bl→Bool
 |[]=>true
 |(w,_)::r=> !w&&v7 r
abbrev Log:=List (Nat×Bool×Nat)
def Aj(o:Oper)(j:Nat):Bool:=o.after.toList.any fun e=>Region.binds .any e&&Nat.beq e.on j
mutual
def V.ids:V→List Nat
 |.agg cs=>Fz cs
 |.bj cs=>Fz cs
 |.fn _ cs=>Fz cs
 |.os j=>[j]
 |.ff j _ _=>[j]
 |.oe j _ _=>[j]
 |.om j=>[j]
 |.sD j _ _=>[j]
 |.vU j _ _ _ _ _=>[j]
 |.op j _=>[j]
 |.yl j=>[j]
 |.it j=>[j]
 |_=>[]
def Fz:List V→List Nat
 |[]=>[]
 |v::r=>v.ids++Fz r
end
def Ak:Option bI→List Nat
 |some (.box cs)=>Fz cs
 |_=>[]
def tV(n:Nat):Nat:=n+2037035976334486086268445688409378161051468393665936250636140449354381299763336706183397376
def DL(m m':Mem):bl→List Nat
 |[]=>[]
 |x::r=>Ak (m x.2)++Ak (m' x.2)++DL m m' r
def zH(ops:Array Oper)(o:Oper)(f:Fr)(m m':Mem)(v:V)(ft:bl):List Nat:=Fz ((o.looksAt ops).map f)++v.ids++DL m m' ft
def cE(E:Env)(d:Option Nat):Nat:=match d with|some d=>E.fid*4096+d|none=>E.fid*4096+4095
def isApp(E:Env)(o:Oper):Bool:=E.yq (cE E o.dst)||match o.op with|.call {callee:=.builtin .append,.. }=>true|_=>false
def qZ(E:Env)(f:Fr)(m:Mem)(o:Oper):Option (Nat×bl):=
 match o.op with
 |.call c=>match c.callee,c.args.toList.map (bA E f),c.argTypes.toList with
  |.builtin .append,[.os id,x],[t,_]=>match E.P.underlying t with
   |some (.slice e)=>match eF m (aO E.P e) x with
    |some (_,rd)=>if x.has id then none else some (id,rd)
    |none=>none
   |_=>none
  |_,_,_=>none
 |_=>none
def DM(E:Env)(f:Fr)(m:Mem)(o:Oper):Option (Kl×bl):=
 match(bif E.yq (cE E o.dst)then vf E (cE E o.dst) o f m else none)with
 |some sp=>some (sp.info (cE E o.dst))
 |none=>match qZ E f m o with
  |some (id,rd)=>some ([(true,id)],(true,id)::rd)
  |none=>none
def reach(ops:Array Oper):Nat→Oper→Nat→Bool
 |0,o,j=>Aj o j
 |n+1,o,j=>Aj o j||o.after.toList.any fun e=>Region.binds .any e&&match ops[e.on]? with|some p=>reach ops n p j|none=>false
def Lo(ops:Array Oper)(o:Oper)(w:Bool)(id:Nat):Log→Bool
 |[]=>true
 |(j,w',nb)::r=>(!(Nat.beq id nb)||(!w&& !w')||reach ops 4 o j)&&Lo ops o w id r
def xr(ops:Array Oper)(o:Oper)(lg:Log):bl→Bool
 |[]=>true
 |(w,id)::r=>Lo ops o w id lg&&xr ops o lg r
def zI(ops:Array Oper)(o:Oper)(id:Nat):Log→Bool
 |[]=>true
 |(j,_,n)::r=>(!(Nat.beq n (tV id))||reach ops 4 o j)&&zI ops o id r
def tW(ops:Array Oper):List (Nat×Oper)→Oper→Bool
 |[],_=>true
 |(j,p)::r,o=>(p.apart ops o||reach ops 4 o j)&&tW ops r o
def lY(ops:Array Oper):List (Nat×Oper)→List (Nat×Oper)→Bool
 |_,[]=>true
 |done,(i,o)::r=>o.after.toList.all (fun e=> !(Region.binds .any e)||Nat.blt e.on i)&&tW ops done o&&lY ops ((i,o)::done) r
def guardOf(o:Oper)(A:List (Nat×Bool)):Option (Nat×Bool):=
 match o.guard with
 |none=>none
 |some g=>if A.elem g then none else some g
def yw(A:List (Nat×Bool)):List (Nat×Oper)→List (Nat×Oper)×List (Nat×Oper)
 |[]=>([],[])
 |x::r=>match guardOf x.2 A with
  |some _=>let(a,b):=yw A r;(x::a,b)
  |none=>([],x::r)
def kA(f:Fr):List (Nat×Oper)→Fr
 |[]=>f
 |x::r=>kA (gF f x.2.dst .top) r
def sG(g:Nat×Bool):List Nat→List (Nat×Oper)→Bool
 |_,[]=>true
 |done,x::r=>(match x.2.guard with
  |some h=>(Nat.beq h.1 g.1&&(h.2==g.2))||done.elem h.1
  |none=>false)&&sG g (x.1::done) r
def blind(ops:Array Oper)(body:List (Nat×Oper))(o:Oper):Bool:=body.all fun y=>match y.2.dst with
  |some d=> !((o.looksAt ops).elem d)
  |none=>true
def Pl:Bool→Bool→Bool
 |true,b=>b
 |false,b=> !b
def gp(f:Fr):List (Nat×Oper)→Fr
 |[]=>f
 |x::r=>gp (gF f x.2.dst (.bj [])) r
def uJ:V→Option Bool
 |.pv (.bool b)=>some b
 |_=>none
end
def sH(E:Env)(o:Oper):Bool:=match o.dst with|some d=>Nat.blt d E.fn.ntmps|none=>true
def SB(E:Env)(f:Fr)(body:List (Nat×Oper))(o:Oper):Bool:=
 eV o&&match o.op with
 |.call {callee:=.value (.func g),.. }=>(E.ctx g).isSome
 |.call {callee:=.value (.tmp t),.. }=>match(match body.find? (fun x=>x.2.dst==some t)with
  |some (_,p)=>(match p.op with
   |.move y=>bA E f y
   |.assign y=>bA E f y
   |_=>.top)
  |none=>bA E f (.tmp t))with
  |.fn g _=>(E.ctx g).isSome
  |.pv (.fn g _)=>(E.ctx g).isSome
  |.yl _=>false
  |_=>true
 |_=>true
noncomputable def cp(E:Env)(ops:Array Oper)(mode:Nat):(fuel:Nat)→(R:Type)→List (Nat×Bool)→List (Nat×Oper)→Fr→Mem→Log→(Fr→Mem→Option R)→Option R
 |0,_,_,_,_,_,_,_=>none
 |_+1,_,_,[],f,m,_,k=>k f m
 |fuel+1,R,A,(i,o)::rest,f,m,lg,k=>
  match guardOf o A with
  |none=>
   if sH E o then
    match(bif Nat.beq mode 2 then DM E f m o else none)with
    |some (kl,ft)=>
     if xr ops o lg ft&&kl.all (fun x=>zI ops o x.2 lg)&&rest.all (fun x=>reach ops 4 x.2 i)then Fy E false (cE E o.dst) o f m fun v f1 m1 _=>cp E ops mode fuel R A rest (gF f1 o.dst v) m1 (ft.map (fun x=>(i,x))++lg) k
     else none
    |none=>Fy E (Nat.beq mode 1||Nat.beq mode 2) (cE E o.dst) o f m fun v f1 m1 ft=>
      if Nat.beq mode 2 then(if xr ops o lg ft then cp E ops mode fuel R A rest (gF f1 o.dst v) m1 ((bif ops.toList.any (isApp E)then(zH ops o f m m1 v ft).map (fun n=>(i,false,tV n))else[])++(ft.map (fun x=>(i,x))++lg)) k else none)
      else if Nat.beq mode 0 then cp E ops mode fuel R A rest (gF f1 o.dst v) m1 lg k
      else if v7 ft then cp E ops mode fuel R A rest (gF f1 o.dst v) m1 lg k
      else none
   else none
  |some (j,xt)=>
   match((ops[j]?).bind (·.dst))with
   |some tj=>match bA E f (.tmp tj)with
    |.pv (.bool b)=>
     match yw A ((i,o)::rest)with
     |(body,FA)=>
     if Nat.beq mode 0&& !(body.all fun x=>SB E f body x.2)then
      (if(body.all fun x=>sH E x.2)&&sG (j,xt) [] body&&((i,o)::rest).all (fun x=> !(x.2.dst==some tj))then
       bif Pl xt b then cp E ops mode fuel R ((j,xt)::A) ((i,o)::rest) (fg f tj (.pv (.bool xt))) m lg k
       else cp E ops mode fuel R A FA (gp (fg f tj (.pv (.bool !xt))) body) m lg k
      else none)
     else match FA with
     |(_,p)::kB=>
      match p.op with
      |.pick (.tmp c) x y=>
       if Nat.beq c tj&&(guardOf p A).isNone&&body.all (fun x=>eV x.2&&sH E x.2&& !(x.2.dst==some tj))&&sG (j,xt) [] body&&kB.all (fun x=>blind ops body x.2)&&sH E p&& !(Nat.beq mode 2)then
        (match xt with
         |true=>bif b then cp E ops (bif Nat.beq mode 0 then 3 else mode) fuel Bool ((j,xt)::A) body f m lg (fun f _=>uJ (bA E f x))else uJ (bA E (kA f body) y)
         |false=>bif b then uJ (bA E (kA f body) x)else cp E ops (bif Nat.beq mode 0 then 3 else mode) fuel Bool ((j,xt)::A) body f m lg (fun f _=>uJ (bA E f y))).bind fun r=>
        cp E ops mode fuel R A kB (gF (kA f body) p.dst (.pv (.bool r))) m lg k
       else none
      |_=>none
     |[]=>none
    |_=>none
   |none=>none
inductive Ex where
 |normal
 |exit (id:Nat)
 |ret
def FB{R:Type}(body:Fr→Mem→(Fr→Mem→Option R)→Option R):Nat→Fr→Mem→Option R
 |0,_,_=>none
 |n+1,f,m=>body f m (FB body n)
def tX:Code→Nat
 |.region id _ _=>id
 |.seq a _=>tX a
 |.cond _ a _=>tX a
 |.block _ b=>tX b
 |.loop b=>tX b
 |.scope b=>tX b
 |_=>0
def Lp:List Sh→Type→Type
 |[],T=>T
 |.raw::r,T=>PV×Lp r T
 |.int _::r,T=>Int×Lp r T
 |.bool::r,T=>Bool×Lp r T
 |.str::r,T=>Bytes×Lp r T
 |.rs _::r,T=>List PV×Lp r T
 |.rp _::r,T=>PV×Lp r T
 |.fs _::r,T=>List PV×Lp r T
 |.row _ _::r,T=>Int×Lp r T
 |.own _::r,T=>Lp r T
def Ff:List (Nat×Pe)→Type
 |[]=>Unit
 |(_,.box cs)::r=>Lp cs (Ff r)
 |(_,.arr _ _)::r=>List PV×Ff r
 |(_,.nr _ _)::r=>List PV×Ff r
 |(_,.map _)::r=>List (PV×PV)×Ff r
 |(_,.nest _ _)::r=>List PV×Ff r
 |(_,.eU _ _)::r=>List (PV×PV)×Ff r
 |(_,.loop)::r=>Ff r
 |(_,.busy)::r=>Ff r
 |(_,.iter _)::r=>List (PV×PV)×Ff r
def fB.il(T:fB):List Sh:=T.aB.map Prod.snd
abbrev fB.ty(T:fB):Type:=Lp T.il (Ff T.cd)
mutual
def V.same:V→V→Bool
 |.op i o,.op j p=>Nat.beq i j&&Nat.beq o p
 |.oe i a o,.oe j b p=>Nat.beq i j&&Nat.beq a b&&Nat.beq o p
 |.os i,.os j=>Nat.beq i j
 |.om i,.om j=>Nat.beq i j
 |.yl i,.yl j=>Nat.beq i j
 |.it i,.it j=>Nat.beq i j
 |.ba,.ba=>true
 |.pv .na,.pv .na=>true
 |.pv .sn,.pv .sn=>true
 |.pv (.int q x),.pv (.int q' y)=>decide (q=q')&&decide (x=y)
 |.fn f cs,.fn g ds=>Nat.beq f g&&Cw cs ds
 |_,_=>false
def Cw:List V→List V→Bool
 |[],[]=>true
 |a::as,b::bs=>a.same b&&Cw as bs
 |_,_=>false
end
section
variable {R:Type}
def im{T:Type}:(il:List Sh)→List V→T→(Lp il T→Option R)→Option R
 |[],[],t,k=>k t
 |.int q::il,.pv (.int q' n)::vs,t,k=>if q'=q then im il vs t (fun r=>k (n,r))else none
 |.raw::il,.pv p::vs,t,k=>im il vs t (fun r=>k (p,r))
 |.bool::il,.pv (.bool b)::vs,t,k=>im il vs t (fun r=>k (b,r))
 |.str::il,.pv (.str s)::vs,t,k=>im il vs t (fun r=>k (s,r))
 |.rs sz::il,.pv (.rs B7 es)::vs,t,k=>if B7=sz then im il vs t (fun r=>k (es,r))else none
 |.rp n::il,.pv (.rp cs)::vs,t,k=>if cs.length=n then im il vs t (fun r=>k (.agg cs,r))else none
 |.fs s::il,.pv p::vs,t,k=>(SA s p).bind fun ls=>im il vs t (fun r=>k (ls,r))
 |.row id off::il,.sD nb i pI::vs,t,k=>if nb=id∧pI=off then im il vs t (fun r=>k ((i:Int),r))else none
 |.own v::il,u::vs,t,k=>if v.same u then im il vs t k else none
 |_,_,_,_=>none
def qt(m:Mem):(bs:List (Nat×Pe))→(Ff bs→Option R)→Option R
 |[],k=>k ()
 |(id,.box cs)::r,k=>match m id with
  |some (.box vs)=>qt m r fun t=>im (T:=Ff r) cs vs t k
  |_=>none
 |(id,.arr sz et)::r,k=>match m id with
  |some (.arr B7 Ag es)=>if B7=sz∧Ag=et then qt m r fun t=>k (es,t)else none
  |_=>none
 |(id,.nr sz et)::r,k=>match m id with
  |some (.nr B7 Ag es)=>if B7=sz∧Ag=et then qt m r fun t=>k (es,t)else none
  |_=>none
 |(id,.map kt)::r,k=>match m id with
  |some (.map sr es)=>if sr=kt then qt m r fun t=>k (es,t)else none
  |_=>none
 |(id,.nest sz et)::r,k=>match m id with
  |some (.nest B7 Ag es)=>if B7=sz∧Ag=et then qt m r fun t=>k (es,t)else none
  |_=>none
 |(id,.eU kt e)::r,k=>match m id with
  |some (.eU sr e' es)=>if sr=kt∧e'=e then qt m r fun t=>k (es,t)else none
  |_=>none
 |(id,.loop)::r,k=>match m id with
  |some (.loop .ready)=>qt m r k
  |_=>none
 |(id,.busy)::r,k=>match m id with
  |some (.loop .busy)=>qt m r k
  |_=>none
 |(id,.iter t)::r,k=>match m id with
  |some (.iter t' es none)=>if t'=t then qt m r fun u=>k (es,u)else none
  |_=>none
def Sh.within(M:List Nat):Sh→Bool
 |.own v=>v.within M
 |.row id _=>M.elem id
 |_=>true
def Pe.within(M:List Nat):Pe→Bool
 |.box cs=>cs.all (·.within M)
 |_=>true
def fB.ok(T:fB):Bool:=T.aB.all (fun x=>x.2.within (T.cd.map (·.1)))&&T.cd.all (fun x=>x.2.within (T.cd.map (·.1)))
def Al:List Sh→List V→Bool
 |[],[]=>true
 |.raw::il,.pv _::vs=>Al il vs
 |.int q::il,.pv (.int q' _)::vs=>decide (q'=q)&&Al il vs
 |.bool::il,.pv (.bool _)::vs=>Al il vs
 |.str::il,.pv (.str _)::vs=>Al il vs
 |.rs sz::il,.pv (.rs B7 _)::vs=>Nat.beq B7 sz&&Al il vs
 |.rp n::il,.pv (.rp cs)::vs=>Nat.beq cs.length n&&Al il vs
 |.fs s::il,.pv p::vs=>(SA s p).isSome&&Al il vs
 |.row id off::il,.sD nb _ pI::vs=>Nat.beq nb id&&Nat.beq pI off&&Al il vs
 |.own v::il,u::vs=>v.same u&&Al il vs
 |_,_=>false
def Cd(m:Mem):List (Nat×Pe)→Bool
 |[]=>true
 |(id,.box cs)::r=>(match m id with|some (.box vs)=>Al cs vs|_=>false)&&Cd m r
 |(id,.arr sz _)::r=>(match m id with|some (.arr B7 _ _)=>Nat.beq B7 sz|_=>false)&&Cd m r
 |(id,.nr sz _)::r=>(match m id with|some (.nr B7 _ _)=>Nat.beq B7 sz|_=>false)&&Cd m r
 |(id,.map _)::r=>(match m id with|some (.map _ _)=>true|_=>false)&&Cd m r
 |(id,.nest sz _)::r=>(match m id with|some (.nest B7 _ _)=>Nat.beq B7 sz|_=>false)&&Cd m r
 |(id,.eU _ _)::r=>(match m id with|some (.eU _ _ _)=>true|_=>false)&&Cd m r
 |(id,.loop)::r=>(match m id with|some (.loop .ready)=>true|_=>false)&&Cd m r
 |(id,.busy)::r=>(match m id with|some (.loop .busy)=>true|_=>false)&&Cd m r
 |(id,.iter _)::r=>(match m id with|some (.iter _ _ none)=>true|_=>false)&&Cd m r
def fits(f:Fr)(m:Mem)(T:fB):Bool:=Cd m T.cd&&Al T.il (T.aB.map fun(x:Nat×Sh)=>f x.1)
def enc(T:fB)(f:Fr)(m:Mem)(k:T.ty→Option R):Option R:=if T.ok then qt m T.cd fun t=>im (T:=Ff T.cd) T.il (T.aB.map fun(x:Nat×Sh)=>f x.1) t k else none
end
def oW{T:Type}:(il:List Sh)→Lp il T→List V×T
 |[],t=>([],t)
 |.int q::il,x=>let r:=oW il x.2;(.pv (.int q x.1)::r.1,r.2)
 |.raw::il,x=>let r:=oW il x.2;(.pv x.1::r.1,r.2)
 |.bool::il,x=>let r:=oW il x.2;(.pv (.bool x.1)::r.1,r.2)
 |.str::il,x=>let r:=oW il x.2;(.pv (.str x.1)::r.1,r.2)
 |.rs sz::il,x=>let r:=oW il x.2;(.pv (.rs sz x.1)::r.1,r.2)
 |.rp n::il,x=>let r:=oW il x.2;(.pv (.rp (aI n x.1))::r.1,r.2)
 |.fs s::il,x=>let r:=oW il x.2;(.pv (DG s ((List.range s.n).map fun j=>x.1.getD j .bad)).1::r.1,r.2)
 |.row id off::il,x=>let r:=oW il x.2;(.sD id x.1.toNat off::r.1,r.2)
 |.own v::il,x=>let r:=oW (T:=T) il x;(v::r.1,r.2)
def fU:(bs:List (Nat×Pe))→Ff bs→List (Nat×Option bI)
 |[],_=>[]
 |(id,.box cs)::r,x=>let y:=oW (T:=Ff r) cs x;(id,some (.box y.1))::fU r y.2
 |(id,.arr sz et)::r,x=>(id,some (.arr sz et x.1))::fU r x.2
 |(id,.nr sz et)::r,x=>(id,some (.nr sz et x.1))::fU r x.2
 |(id,.map kt)::r,x=>(id,some (.map kt x.1))::fU r x.2
 |(id,.nest sz et)::r,x=>(id,some (.nest sz et x.1))::fU r x.2
 |(id,.eU kt e)::r,x=>(id,some (.eU kt e x.1))::fU r x.2
 |(id,.loop)::r,x=>(id,some (.loop .ready))::fU (r:List (Nat×Pe)) x
 |(id,.busy)::r,x=>(id,some (.loop .busy))::fU (r:List (Nat×Pe)) x
 |(id,.iter t)::r,x=>(id,some (.iter t x.1 none))::fU r x.2
def nO:List (Nat×Sh)→List V→List (Nat×V)
 |(t,_)::r,v::vs=>(t,v)::nO r vs
 |_,_=>[]
def H4(T:fB)(x:T.ty):Fr:=HY (nO T.aB (oW (T:=Ff T.cd) T.il x).1)
def Am(T:fB)(x:T.ty):Mem:=zY (fU T.cd (oW (T:=Ff T.cd) T.il x).2)
def yy{A:Type}:List (Nat×Nat)→Fr→Mem→(Fr→Mem→A)→A
 |[],f,m,k=>k f m
 |(t,sz)::r,f,m,k=>match f t with
  |.os id=>match m id with
   |some (.arr s et es)=>yy r (fg f t (.pv (.rs s es))) (al m id (.nr s et es)) k
   |some (.nr s _ es)=>yy r (fg f t (.pv (.rs s es))) m k
   |_=>yy r f m k
  |.ba=>yy r (fg f t (.pv (.rs sz []))) m k
  |_=>yy r f m k
def Cx{A:Type}:List (Nat×Nat×Nat)→Mem→(Mem→A)→A
 |[],m,k=>k m
 |(id,j,sz)::r,m,k=>match m id with
  |some (.box cs)=>match cs[j]? with
   |some .ba=>Cx r (al m id (.box (cs.set j (.pv (.rs sz []))))) k
   |_=>Cx r m k
  |_=>Cx r m k
def yz{A:Type}(P:Program):List (Nat×Nat×Nat×TypeId)→Mem→(Mem→A)→A
 |[],m,k=>k m
 |(id,j,Pm,et)::r,m,k=>match m id with
  |some (.box cs)=>match cs[j]? with
   |some .ba=>match m Pm with
    |none=>if 0<aO P et then yz P r (al (al m Pm (.arr (aO P et) et [])) id (.box (cs.set j (.os Pm)))) k else yz P r m k
    |some _=>yz P r m k
   |_=>yz P r m k
  |_=>yz P r m k
def FC{A:Type}:List Nat→Mem→(Mem→A)→A
 |[],m,k=>k m
 |id::r,m,k=>match m id with
  |some (.arr s et es)=>FC r (al m id (.nest s et es)) k
  |_=>FC r m k
def yA{A:Type}:List (Nat×Nat)→Fr→Mem→(Fr→Mem→A)→A
 |[],f,m,k=>k f m
 |(id,j)::r,f,m,k=>match m id with
  |some (.box cs)=>match cs[j]? with
   |some (.ff a 0 len)=>match m a with
    |some (.arr s et es)=>if Nat.beq a id then yA r f m k else yA r (eO a f) (al (al (aX (bB a m) a) a (.arr s et (es.take len))) id (.box ((cs.map (pk a)).set j (.os a)))) k
    |_=>yA r f m k
   |_=>yA r f m k
  |_=>yA r f m k
def Cy{A:Type}(P:Program)(T:fB)(f:Fr)(m:Mem)(k:Fr→Mem→A):A:=yA T.ct f m fun f m=>yz P T.bo m fun m=>Cx T.bz m fun m=>FC T.nz m fun m=>yy T.fz f m k
variable{R:Type}
def Ex.FD(k1:Fr→Mem→Option R)(k:Ex→Fr→Mem→Option R):Ex→Fr→Mem→Option R
 |.normal,f,m=>k1 f m
 |e,f,m=>k e f m
def Ex.Pn(id:Nat)(k:Ex→Fr→Mem→Option R):Ex→Fr→Mem→Option R
 |.exit j,f,m=>if j=id then k .normal f m else k (.exit j) f m
 |e,f,m=>k e f m
def Ex.jmp:Ex→Option XE
 |.normal=>none
 |.exit id=>some (.exit id)
 |.ret=>some .ret
def XE.ex:XE→Ex
 |.ret=>.ret
 |.exit id=>.exit id
def Lq(n:Nat)(g f:Fr):Fr:=fun t=>bif Nat.blt t n then g t else f (t-n)
def An:List Nat→List V→Fr→Fr
 |p::ps,v::vs,f=>An ps vs (fg f p v)
 |_,_,f=>f
def roundOf(as b:Fr→Mem→(Ex→Fr→Mem→Option R)→Option R)(lid n:Nat)(ps:List Nat)(nt:Nat)(args:List V)(F:Fr)(m:Mem)(k:V→Fr→Mem→Option R):Option R:=
 match m lid with
 |some (.loop .ready)=>if args.length=ps.length then
  as (Lq n (An ps args (sF nt F)) F) m fun e f m=>match e,m lid with
   |.normal,some (.loop .ready)=>b f (al m lid (.loop .busy)) fun e f m=>match m lid with
    |some (.loop .busy)=>match e.jmp with
     |none=>k (.pv (.bool true)) (sF n f) (al m lid (.loop .ready))
     |some j=>k (.pv (.bool false)) (sF n f) (al m lid (.loop (.done j)))
    |_=>none
   |_,_=>none
  else none
 |_=>none
def Vu:V→Option (FuncId×List V)
 |.fn g lI=>some (g,lI)
 |.pv (.fn g lI)=>some (g,lI.map .pv)
 |_=>none
def Ym(E:Env)(o:Oper):Bool:=match o.op with
 |.call c=>match c.callee with
  |.value (.func g)=>(E.ctx g).isNone&&(E.own g).isNone
  |_=>false
 |_=>false
def SC(E:Env)(ops:Array Oper):Option Nat:=ops.toList.findIdx? (Ym E)
def Po(ops:Array Oper)(p:Nat):Bool:=match ops[p]? with
 |none=>false
 |some o=>o.guard.isNone&&o.after.toList.all (fun e=> !(Region.binds .any e)||Nat.blt e.on p)&&((List.range ops.size).zip ops.toList).all fun x=>bif Nat.blt x.1 p then reach ops 8 o x.1 else Nat.beq x.1 p||reach ops 8 x.2 p
noncomputable def eY:(E:Env)→{R:Type}→Code→Fr→Mem→(Ex→Fr→Mem→Option R)→Option R
 |E,_,.skip,f,m,k=>k .normal f m
 |E,R,.region _ ops draw,f,m,k=>
  if draw then
   match SC E ops with
   |some p=>if Po ops p&&lY ops [] (((List.range ops.size).zip ops.toList).take p)&&lY ops [] (((List.range ops.size).zip ops.toList).drop (p+1))then
     cp E ops 2 (ops.size+1) R [] (((List.range ops.size).zip ops.toList).take p) f m [] fun f m=>
     cp E ops 0 3 R [] ((((List.range ops.size).zip ops.toList).drop p).take 1) f m [] fun f m=>
     cp E ops 2 (ops.size+1) R [] (((List.range ops.size).zip ops.toList).drop (p+1)) f m [] fun f m=>k .normal f m
    else none
   |none=>
   (if lY ops [] ((List.range ops.size).zip ops.toList)then
    (if ops.toList.all eV then cp E ops 1 (ops.size+1) R [] ((List.range ops.size).zip ops.toList) f m [] fun f m=>k .normal f m
    else cp E ops 2 (ops.size+1) R [] ((List.range ops.size).zip ops.toList) f m [] fun f m=>k .normal f m)
   else none)
  else cp E ops 0 (ops.size+ops.size+1) R [] ((List.range ops.size).zip ops.toList) f m [] fun f m=>k .normal f m
 |E,R,.seq a b,f,m,k=>eY E a f m (Ex.FD (fun f m=>eY E b f m k) k)
 |E,R,.cond c a b,f,m,k=>match c,bA E f c with
  |.tmp x,.pv (.bool t)=>if t then eY E a (fg f x (.pv (.bool true))) m k else eY E b (fg f x (.pv (.bool false))) m k
  |_,_=>none
 |E,R,.block id b,f,m,k=>eY E b f m (Ex.Pn id k)
 |E,R,.loop b,f,m,k=>match(E.hint E.fid (tX b)).find? (fun T=>Cy E.P T f m fun f m=>fits f m T)with
  |some T=>Cy E.P T f m fun f m=>enc T f m (E.lp.run fun s rec=>eY E b (H4 T s) (Am T s) (Ex.FD (fun f m=>Cy E.P T f m fun f m=>enc T f m rec) k))
  |none=>FB (fun f m rec=>eY E b f m (Ex.FD rec k)) E.u f m
 |E,R,.exit id,f,m,k=>k (.exit id) f m
 |E,R,.ret,f,m,k=>k .ret f m
 |E,R,.label _,f,m,k=>k .normal f m
 |E,R,.scope b,f,m,k=>eY E b f m k
 |E,R,.rangeFunc g ps as b,f,m,k=>if E.Vt then none else match ps.toList with
  |p0::_=>fresh true (cE E (some p0)) (.loop .ready) f m fun f m _=>match Vu (bA E f g)with
   |some (gid,lI)=>E.Vs R gid (cE E (some p0)*4096+gid) (fun _ nt site id args F m k=>bif Nat.beq id (cE E (some p0))then
     roundOf (eY {E with fid:=site*4096+E.fid%4096,yl:=xj,Vt:=true} as) (eY {E with fid:=site*4096+E.fid%4096,yl:=xj,Vt:=true} b) (cE E (some p0)) E.fn.ntmps ps.toList nt args F m k
     else none)
    (.yl (cE E (some p0))::lI) f m fun _ f m=>match m (cE E (some p0))with
     |some (.loop .ready)=>k .normal (eO (cE E (some p0)) f) (aX (bB (cE E (some p0)) m) (cE E (some p0)))
     |some (.loop (.done j))=>k j.ex (eO (cE E (some p0)) f) (aX (bB (cE E (some p0)) m) (cE E (some p0)))
     |_=>none
   |_=>none
  |[]=>none
 |_,_,_,_,_,_=>none
def v8(E:Env){R:Type}(f:Fr)(m:Mem):List ResultVar→(List V→Option R)→Option R
 |[],k=>k []
 |.tmp t::rs,k=>v8 E f m rs fun vs=>k (bA E f (.tmp t)::vs)
 |.cell a t::rs,k=>nM E false t (bA E f (.tmp a)) m fun v _=>v8 E f m rs fun vs=>k (v::vs)
def Pp(E:Env)(rs:List ResultVar)(f:Fr)(m:Mem):Option PV:=v8 E f m rs fun vs=>match vs with
  |[v]=>iZ m eE v
  |vs=>(nK (iZ m eE) vs).bind fun ps=>some (.bj ps)
section
variable {R:Type} (E:Env)
def DN(t:TypeId)(p:PV)(k:PV→Option R):Option R:=
 match E.P.underlying t with
 |some (.int _)=>fG E t p k
 |some .bool=>fG E t p k
 |some .string=>fG E t p k
 |some (.slice _)=>fG E t p k
 |some (.map _ _)=>fG E t p k
 |_=>k p
def nc:List TypeId→List PV→(List PV→Option R)→Option R
 |t::ts,p::ps,k=>DN E t p fun q=>nc ts ps fun qs=>k (q::qs)
 |_,ps,k=>k ps
def Lr(n:Nat)(p:PV)(a:Option R)(b:PV→Option R):Option R:=
 match p with
 |.na=>a
 |.rp cs=>if n≤cs.length then b (.agg cs)else none
 |_=>none
def Pq(t:TypeId)(p:PV)(k:PV→Option R):Option R:=
 match E.P.underlying t with
 |some (.struct _)=>(asAgg (aO E.P t) p).bind fun _=>match Ai E.P 8 t with
  |some ts=>nc E ts (aI (aO E.P t) p) fun cs=>k (.agg cs)
  |none=>none
 |some (.array _ _)=>(asAgg (aO E.P t) p).bind fun _=>match Ai E.P 8 t with
  |some ts=>nc E ts (aI (aO E.P t) p) fun cs=>k (.agg cs)
  |none=>none
 |some (.pointer e)=>Lr (aO E.P e) p (k .na) fun q=>match Ai E.P 8 e with
  |some ts=>nc E ts (aI (aO E.P e) q) fun cs=>k (.rp cs)
  |none=>none
 |_=>DN E t p k
def vg:List TypeId→List PV→(List PV→Option R)→Option R
 |t::ts,p::ps,k=>Pq E t p fun q=>vg ts ps fun qs=>k (q::qs)
 |_,ps,k=>k ps
end
def Ao(args:List V):Fr:=fun t=>args.getD t .top
noncomputable def zJ(E:Env)(args:List V)(f:Fr)(m:Mem)(k:V→Fr→Mem→Option R):Option R:=
 match E.fn.body with
 |some c=>if args.length≤E.fn.ntmps then eY E c (sc E.fn.ntmps args f) m (fun e f m=>match e with
  |.exit _=>none
  |_=>v8 E f m E.fn.results.toList fun vs=>match vs with
   |[v]=>k v (sF E.fn.ntmps f) m
   |vs=>k (.bj vs) (sF E.fn.ntmps f) m)else none
 |none=>none
def Vv(E:Env)(f:Fr)(m:Mem):Option PV:=
 match E.fn.resultTypes.toList with
 |[t]=>match E.P.underlying t with
  |some (.slice e)=>v8 E f m E.fn.results.toList fun vs=>match vs with
   |[.os id]=>match m id with
    |some (.arr sz et es)=>if sz=aO E.P e∧et=e then some (.rs sz es)else none
    |_=>none
   |[.ff id 0 len]=>match m id with
    |some (.arr sz et es)=>if sz=aO E.P e∧et=e then some (.rs sz (es.take len))else none
    |_=>none
   |_=>none
  |_=>none
 |_=>none
noncomputable def kC(E:Env)(args:List PV):Option PV:=
 match E.fn.body with
 |some c=>if args.length≤E.fn.ntmps then vg E E.fn.params.toList args fun vs=>eY E c (Ao (vs.map .pv)) (fun _=>none) (fun e f m=>match e with
  |.exit _=>none
  |_=>Vv E f m)else none
 |none=>none
noncomputable def aR(E:Env)(args:List PV):Option PV:=
 match E.fn.body with
 |some c=>if args.length≤E.fn.ntmps then vg E E.fn.params.toList args fun vs=>eY E c (Ao (vs.map .pv)) (fun _=>none) (fun e f m=>match e with
  |.normal=>Pp E E.fn.results.toList f m
  |.ret=>Pp E E.fn.results.toList f m
  |.exit _=>none)else none
 |none=>none
end Go.Ab
