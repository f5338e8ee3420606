import GoSem.Step
import GoSem.ClaimData
import Derived.Calls
set_option linter.unusedVariables false
namespace Go.Ab
abbrev Bytes:=List UInt8
inductive PV where
 |int (k:IntKind) (n:Int)
 |bool (b:Bool)
 |str (s:Bytes)
 |agg (cs:List PV)
 |bm (vs:List PV)
 |ny
 |rp (cs:List PV)
 |rs (sz:Nat) (es:List PV)
 |fP (sz:Nat) (es:List PV)
 |sN
 |rm (kt:TypeId) (ks vs:List PV)
 |xL
 |fn (f:FuncId) (lU:List PV)
 |Tu (b:Bool)
 |bad
 deriving Inhabited
def PV.cells:PV→List PV
 |.agg cs=>cs
 |v=>[v]
def cell(p:PV)(j:Nat):PV:=p.cells.getD j .bad
def kv(p:PV):(j n:Nat)→List PV
 |_,0=>[]
 |j,n+1=>cell p j::kv p (j+1) n
def aK(sz:Nat)(p:PV):List PV:=kv p 0 sz
inductive Y1 where
 |ret
 |exit (id:Nat)
inductive IA where
 |ready
 |busy
 |done (j:Y1)
inductive V where
 |pv (p:PV)
 |bj
 |op (id off:Nat)
 |oe (id i off:Nat)
 |os (id:Nat)
 |fg (id lo len:Nat)
 |om (id:Nat)
 |sY (id i off:Nat)
 |wC (id i off s j off2:Nat)
 |fn (f:FuncId) (lU:List V)
 |yl (id:Nat)
 |it (id:Nat)
 |agg (cs:List V)
 |bm (vs:List V)
 |top
 deriving Inhabited
inductive bJ where
 |box (cs:List V)
 |arr (sz:Nat) (et:TypeId) (es:List PV)
 |nM (sz:Nat) (et:TypeId) (es:List PV)
 |map (kt:TypeId) (es:List (PV×PV))
 |nest (sz:Nat) (et:TypeId) (es:List PV)
 |eU (kt e:TypeId) (es:List (PV×PV))
 |loop (st:IA)
 |iter (t:TypeId) (es:List (PV×PV)) (cur:Option (PV×PV))
 deriving Inhabited
abbrev Fr:=Nat→V
abbrev Mem:=Nat→Option bJ
def fh(f:Fr)(d:Nat)(v:V):Fr:=fun t=>bif Nat.beq t d then v else f t
def gP(f:Fr)(d:Option Nat)(v:V):Fr:=match d with|some d=>fh f d v|none=>f
def an(m:Mem)(d:Nat)(b:bJ):Mem:=fun t=>bif Nat.beq t d then some b else m t
def bf(m:Mem)(d:Nat):Mem:=fun t=>bif Nat.beq t d then none else m t
def IM:List (Nat×V)→Fr
 |[]=>fun _=>.top
 |(d,v)::r=>fh (IM r) d v
def AH:List (Nat×Option bJ)→Mem
 |[]=>fun _=>none
 |(d,b)::r=>fun t=>bif Nat.beq t d then b else AH r t
abbrev bp:=List (Bool×Nat)
def asInt(q:IntKind):PV→Option Int
 |.int q' n=>if q'=q then some n else none
 |_=>none
def asBool:PV→Option Bool
 |.bool b=>some b
 |_=>none
def bt:PV→Option Bytes
 |.str s=>some s
 |_=>none
def Ml:PV→Option Bool
 |.Tu b=>some b
 |_=>none
def ab(sz:Nat):PV→Option (List PV)
 |.rs CD es=>if CD=sz then some es else match es with|[]=>some []|_=>none
 |_=>none
def bW(n:Nat):PV→Option (List PV)
 |.bm vs=>if vs.length=n then some vs else none
 |_=>none
def asAgg(n:Nat):PV→Option Unit
 |.agg cs=>if cs.length=n then some ()else none
 |_=>none
def aY(sz:Nat):PV→Option (List PV)
 |.fP CD es=>if CD=sz then some es else none
 |_=>none
def PV.isRow:PV→Bool
 |.fP _ _=>true
 |_=>false
def PV.lV:PV→PV
 |.fP sz es=>.rs sz es
 |p=>p
def PV.strip:PV→PV
 |.agg cs=>.agg (cs.map PV.lV)
 |p=>p.lV
def aZ(es:List PV)(i:Int):Option PV:=if 0≤i then es[i.toNat]? else none
def NU(s:Bytes)(i:Int):Option UInt8:=if 0≤i then s[i.toNat]? else none
inductive Kd where
 |int (q:IntKind)
 |bool
 |str
def qN:Kd→PV→Bool
 |.int q,.int q' _=>decide (q'=q)
 |.bool,.bool _=>true
 |.str,.str _=>true
 |_,_=>false
def gQ:List Kd→List PV→Bool
 |[],[]=>true
 |k::ks,p::ps=>qN k p&&gQ ks ps
 |_,_=>false
def PV.isAgg:PV→Bool
 |.agg _=>true
 |_=>false
def PV.plain:PV→Bool
 |.bm _=>false
 |.bad=>false
 |_=>true
def peq:PV→PV→Bool
 |.int _ a,.int _ b=>a==b
 |.bool a,.bool b=>a==b
 |.str a,.str b=>a==b
 |_,_=>false
def cA:List PV→List PV→Bool
 |[],[]=>true
 |a::as,b::bs=>peq a b&&cA as bs
 |_,_=>false
def dK(k:PV)(z:PV):List (PV×PV)→PV
 |[]=>z
 |(a,v)::r=>if cA k.cells a.cells then v else dK k z r
def sO(k:PV):List (PV×PV)→Bool
 |[]=>false
 |(a,_)::r=>cA k.cells a.cells||sO k r
def eO(k v:PV):List (PV×PV)→List (PV×PV)
 |[]=>[(k,v)]
 |(a,u)::r=>if cA k.cells a.cells then(k,v)::r else(a,u)::eO k v r
def pK(k:PV):List (PV×PV)→List (PV×PV)
 |[]=>[]
 |(a,u)::r=>if cA k.cells a.cells then(a,.bad)::r else(a,u)::pK k r
def F5(sz:Nat)(k:PV):List (PV×PV)→Option (List PV)
 |[]=>some []
 |(a,u)::r=>if cA k.cells a.cells then aY sz u else F5 sz k r
section
variable (P:Program)
def aS(t:TypeId):Nat:=((P.info? t).map (·.size)).getD 0
def CJ(t:TypeId):Nat:=((P.info? t).map (·.bytes)).getD 0
def aD(t:TypeId):Bool:=match P.underlying t with|some (.struct _)|some (.array _ _)=>true|_=>false
def nX(xI:TypeId→Option (List Kd)):List Field→Nat→Option (List Kd)
 |[],_=>some []
 |f::r,off=>if f.offset=off∧f.name≠ "_" then(xI f.type).bind fun a=>(nX xI r (off+a.length)).bind fun b=>some (a++b)else none
def nY(a:List Kd):Nat→List Kd
 |0=>[]
 |n+1=>a++nY a n
def xI:Nat→TypeId→Option (List Kd)
 |0,_=>none
 |d+1,t=>match P.underlying t with
  |some (.int q)=>some [.int q]
  |some .bool=>some [.bool]
  |some .string=>some [.str]
  |some (.struct fs)=>if P.stoodInHeld t then none else(nX (xI d) fs.toList 0).bind fun a=>if a.length=aS P t then some a else none
  |some (.array n e)=>(xI d e).bind fun a=>if a.length=aS P e∧n*a.length=aS P t then some (nY a n)else none
  |_=>none
def sB(kt:TypeId)(ks:List Kd)(k:PV):Bool:=gQ ks k.cells&&(aD P kt==k.isAgg)
def pL(t:TypeId):Option (List Kd):=if P.eqGuardType P.depth t then none else xI P 8 t
end
def xM:Value→V
 |.int k n=>if(Lit.int k n).wf then .pv (.int k n)else .top
 |.bool b=>.pv (.bool b)
 |.string s=>if s.data.toList.length≤maxLen then .pv (.str s.data.toList)else .top
 |.pointer none=>.pv .ny
 |.slice none 0 0=>.bj
 |.map none=>.pv .sN
 |.nilFunc=>.pv .xL
 |.nilIface=>.pv (.Tu false)
 |_=>.top
def C4:Value→V
 |.agg cs=>if cs.toList.all (fun c=>match c with|.agg _=>false|.tuple _=>false|_=>true)then .agg (cs.toList.map xM)else .top
 |v=>xM v
def zeroV(P:Program)(t:TypeId):Option V:=((P.info? t).bind (·.zero)).map C4
def toCells(n:Nat):V→Option (List V)
 |.pv (.agg cs)=>if cs.length=n then some (cs.map .pv)else none
 |.agg cs=>if cs.length=n then some cs else none
 |.top|.bm _|.pv (.bm _)|.pv .bad=>none
 |v=>if n=1 then some [v]else none
def NV:PV→Option PV
 |.fP s rs=>some (.rs s rs)
 |_=>none
def nZ(f:V→Option PV):List V→Option (List PV)
 |[]=>some []
 |v::r=>(f v).bind fun p=>(nZ f r).bind fun ps=>some (p::ps)
def jj(m:Mem):Nat→V→Option PV
 |0,_=>none
 |_+1,.pv p=>some p
 |_+1,.bj=>some (.rs 0 [])
 |d+1,.agg cs=>(nZ (jj m d) cs).bind fun ps=>some (.agg ps)
 |d+1,.bm cs=>(nZ (jj m d) cs).bind fun ps=>some (.bm ps)
 |d+1,.fn g cs=>(nZ (jj m d) cs).bind fun ps=>some (.fn g ps)
 |_+1,.os id=>match m id with
  |some (.arr s _ es)=>some (.rs s es)
  |some (.nM s _ es)=>some (.rs s es)
  |some (.nest s _ es)=>some (.rs s (es.map PV.strip))
  |_=>none
 |_+1,.sY id i off=>match m id with
  |some (.nest _ _ es)=>(es[i]?).bind fun e=>NV (cell e off)
  |_=>none
 |_+1,.fg id lo len=>match m id with
  |some (.arr s _ es)=>some (.rs s ((es.drop lo).take len))
  |some (.nM s _ es)=>some (.rs s ((es.drop lo).take len))
  |_=>none
 |d+1,.op id off=>match m id with
  |some (.box cs)=>(nZ (jj m d) (cs.drop off)).bind fun ps=>some (.rp ps)
  |_=>none
 |_+1,.oe id i off=>match m id with
  |some (.arr s _ es)=>(es[i]?).bind fun e=>some (.rp ((aK s e).drop off))
  |some (.nM s _ es)=>(es[i]?).bind fun e=>some (.rp ((aK s e).drop off))
  |_=>none
 |_+1,.om id=>match m id with
  |some (.map kt es)=>some (.rm kt (es.map (·.1)) (es.map (·.2)))
  |some (.eU kt _ es)=>some (.rm kt (es.map (·.1)) (es.map fun x=>x.2.lV))
  |_=>none
 |_+1,_=>none
def eG:Nat:=6
def gA(f:V→List Nat):List V→List Nat
 |[]=>[]
 |v::r=>f v++gA f r
def cY(m:Mem):Nat→V→List Nat
 |0,_=>[]
 |d+1,.agg cs=>gA (cY m d) cs
 |d+1,.bm cs=>gA (cY m d) cs
 |d+1,.fn _ cs=>gA (cY m d) cs
 |_+1,.os id=>[id]
 |_+1,.fg id _ _=>[id]
 |_+1,.oe id _ _=>[id]
 |_+1,.om id=>[id]
 |_+1,.sY id _ _=>[id]
 |d+1,.op id off=>id::(match m id with|some (.box cs)=>gA (cY m d) (cs.drop off)|_=>[])
 |_+1,_=>[]
def AJ(m:Mem):V→Option (PV×Mem)
 |.pv p=>some (p,m)
 |.bj=>some (.rs 0 [],m)
 |.os id=>match m id with
  |some (.arr s et es)=>some (.rs s es,an m id (.nM s et es))
  |some (.nM s _ es)=>some (.rs s es,m)
  |some (.nest s et es)=>some (.rs s (es.map PV.strip),an m id (.nM s et (es.map PV.strip)))
  |_=>none
 |_=>none
def kx:Mem→List V→Option (List PV×Mem)
 |m,[]=>some ([],m)
 |m,v::r=>match AJ m v with
  |some (p,m)=>match kx m r with
   |some (ps,m)=>some (p::ps,m)
   |none=>none
  |none=>none
def rL(m:Mem):V→Option (PV×Mem)
 |.agg cs=>match kx m cs with
  |some (ps,m)=>some (.agg ps,m)
  |none=>none
 |v=>AJ m v
def iW(m:Mem)(n:Nat)(agg:Bool)(v:V):Option (PV×Mem):=
 match toCells n v with
 |some cs=>match kx m cs with
  |some (ps,m)=>if agg then some (.agg ps,m)else match ps with|[p]=>some (p,m)|_=>none
  |none=>none
 |none=>none
mutual
def V.has(id:Nat):V→Bool
 |.agg cs=>cq id cs
 |.bm cs=>cq id cs
 |.fn _ cs=>cq id cs
 |.os j=>Nat.beq j id
 |.fg j _ _=>Nat.beq j id
 |.oe j _ _=>Nat.beq j id
 |.om j=>Nat.beq j id
 |.sY j _ _=>Nat.beq j id
 |.wC j _ _ _ _ _=>Nat.beq j id
 |.op j _=>Nat.beq j id
 |.yl j=>Nat.beq j id
 |.it j=>Nat.beq j id
 |_=>false
def cq(id:Nat):List V→Bool
 |[]=>false
 |v::r=>v.has id||cq id r
end
mutual
def V.within(M:List Nat):V→Bool
 |.agg cs=>iX M cs
 |.bm cs=>iX M cs
 |.fn _ cs=>iX M cs
 |.os j=>M.elem j
 |.fg j _ _=>M.elem j
 |.oe j _ _=>M.elem j
 |.om j=>M.elem j
 |.sY j _ _=>M.elem j
 |.wC j _ _ _ _ _=>M.elem j
 |.op j _=>M.elem j
 |.yl j=>M.elem j
 |.it j=>M.elem j
 |_=>true
def iX(M:List Nat):List V→Bool
 |[]=>true
 |v::r=>v.within M&&iX M r
end
mutual
def V.sP(id:Nat):V→Bool
 |.agg cs=>wE id cs
 |.bm cs=>wE id cs
 |.fn _ cs=>wE id cs
 |.sY j _ _=>Nat.beq j id
 |.wC j _ _ _ _ _=>Nat.beq j id
 |_=>false
def wE(id:Nat):List V→Bool
 |[]=>false
 |v::r=>v.sP id||wE id r
end
def pM(id:Nat)(v:V):V:=bif v.has id then .top else v
def eP(id:Nat)(f:Fr):Fr:=fun t=>pM id (f t)
def fI(id:Nat):bJ→bJ
 |.box cs=>.box (cs.map (pM id))
 |b=>b
def bC(id:Nat)(m:Mem):Mem:=fun j=>match m j with|some b=>some (fI id b)|none=>none
def lW(id:Nat)(v:V):V:=bif v.sP id then .top else v
def gi(id:Nat)(f:Fr):Fr:=fun t=>lW id (f t)
def dO(id:Nat):bJ→bJ
 |.box cs=>.box (cs.map (lW id))
 |b=>b
def eS(id:Nat)(m:Mem):Mem:=fun j=>match m j with|some b=>some (dO id b)|none=>none
abbrev Kl:=List (Bool×Nat)
def kf:Kl→Fr→Fr
 |[],f=>f
 |(true,id)::r,f=>kf r (eP id f)
 |(false,id)::r,f=>kf r (gi id f)
def km:Kl→Mem→Mem
 |[],m=>m
 |(true,id)::r,m=>km r (bf (bC id m) id)
 |(false,id)::r,m=>km r (eS id m)
def qK:List (Nat×bJ)→Mem→Mem
 |[],m=>m
 |(id,b)::r,m=>qK r (an m id b)
def bJ.names:bJ→Nat→Bool
 |.box cs,id=>cq id cs
 |_,_=>false
def bJ.within(M:List Nat):bJ→Bool
 |.box cs=>iX M cs
 |_=>true
end Go.Ab
