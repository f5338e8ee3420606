import GoSem.Step
import GoSem.ClaimData
import Derived.Calls
set_option linter.unusedVariables false
namespace Go.Ab
abbrev Bytes:=List UInt8
inductive PV where
 |int (k:IntKind) (n:Int)
 |bool (b:Bool)
 |str (s:Bytes)
 |agg (cs:List PV)
 |bj (vs:List PV)
 |na
 |rp (cs:List PV)
 |rs (sz:Nat) (es:List PV)
 |fK (sz:Nat) (es:List PV)
 |sn
 |rm (kt:TypeId) (ks vs:List PV)
 |xh
 |fn (f:FuncId) (lI:List PV)
 |Sl (b:Bool)
 |bad
 deriving Inhabited
def PV.cells:PV→List PV
 |.agg cs=>cs
 |v=>[v]
def cell(p:PV)(j:Nat):PV:=p.cells.getD j .bad
def kg(p:PV):(j n:Nat)→List PV
 |_,0=>[]
 |j,n+1=>cell p j::kg p (j+1) n
def aI(sz:Nat)(p:PV):List PV:=kg p 0 sz
inductive XE where
 |ret
 |exit (id:Nat)
inductive HM where
 |ready
 |busy
 |done (j:XE)
inductive V where
 |pv (p:PV)
 |ba
 |op (id off:Nat)
 |oe (id i off:Nat)
 |os (id:Nat)
 |ff (id lo len:Nat)
 |om (id:Nat)
 |sD (id i off:Nat)
 |vU (id i off s j off2:Nat)
 |fn (f:FuncId) (lI:List V)
 |yl (id:Nat)
 |it (id:Nat)
 |agg (cs:List V)
 |bj (vs:List V)
 |top
 deriving Inhabited
inductive bI where
 |box (cs:List V)
 |arr (sz:Nat) (et:TypeId) (es:List PV)
 |nr (sz:Nat) (et:TypeId) (es:List PV)
 |map (kt:TypeId) (es:List (PV×PV))
 |nest (sz:Nat) (et:TypeId) (es:List PV)
 |eU (kt e:TypeId) (es:List (PV×PV))
 |loop (st:HM)
 |iter (t:TypeId) (es:List (PV×PV)) (cur:Option (PV×PV))
 deriving Inhabited
abbrev Fr:=Nat→V
abbrev Mem:=Nat→Option bI
def fg(f:Fr)(d:Nat)(v:V):Fr:=fun t=>bif Nat.beq t d then v else f t
def gF(f:Fr)(d:Option Nat)(v:V):Fr:=match d with|some d=>fg f d v|none=>f
def al(m:Mem)(d:Nat)(b:bI):Mem:=fun t=>bif Nat.beq t d then some b else m t
def aX(m:Mem)(d:Nat):Mem:=fun t=>bif Nat.beq t d then none else m t
def HY:List (Nat×V)→Fr
 |[]=>fun _=>.top
 |(d,v)::r=>fg (HY r) d v
def zY:List (Nat×Option bI)→Mem
 |[]=>fun _=>none
 |(d,b)::r=>fun t=>bif Nat.beq t d then b else zY r t
abbrev bl:=List (Bool×Nat)
def asInt(q:IntKind):PV→Option Int
 |.int q' n=>if q'=q then some n else none
 |_=>none
def asBool:PV→Option Bool
 |.bool b=>some b
 |_=>none
def bx:PV→Option Bytes
 |.str s=>some s
 |_=>none
def Ll:PV→Option Bool
 |.Sl b=>some b
 |_=>none
def ab(sz:Nat):PV→Option (List PV)
 |.rs B7 es=>if B7=sz then some es else match es with|[]=>some []|_=>none
 |_=>none
def bY(n:Nat):PV→Option (List PV)
 |.bj vs=>if vs.length=n then some vs else none
 |_=>none
def asAgg(n:Nat):PV→Option Unit
 |.agg cs=>if cs.length=n then some ()else none
 |_=>none
def aT(sz:Nat):PV→Option (List PV)
 |.fK B7 es=>if B7=sz then some es else none
 |_=>none
def PV.isRow:PV→Bool
 |.fK _ _=>true
 |_=>false
def PV.lJ:PV→PV
 |.fK sz es=>.rs sz es
 |p=>p
def PV.strip:PV→PV
 |.agg cs=>.agg (cs.map PV.lJ)
 |p=>p.lJ
def bk(es:List PV)(i:Int):Option PV:=if 0≤i then es[i.toNat]? else none
def MP(s:Bytes)(i:Int):Option UInt8:=if 0≤i then s[i.toNat]? else none
inductive Kd where
 |int (q:IntKind)
 |bool
 |str
def qp:Kd→PV→Bool
 |.int q,.int q' _=>decide (q'=q)
 |.bool,.bool _=>true
 |.str,.str _=>true
 |_,_=>false
def jj:List Kd→List PV→Bool
 |[],[]=>true
 |k::ks,p::ps=>qp k p&&jj ks ps
 |_,_=>false
def PV.isAgg:PV→Bool
 |.agg _=>true
 |_=>false
def PV.plain:PV→Bool
 |.bj _=>false
 |.bad=>false
 |_=>true
def peq:PV→PV→Bool
 |.int _ a,.int _ b=>a==b
 |.bool a,.bool b=>a==b
 |.str a,.str b=>a==b
 |_,_=>false
def cV:List PV→List PV→Bool
 |[],[]=>true
 |a::as,b::bs=>peq a b&&cV as bs
 |_,_=>false
def dH(k:PV)(z:PV):List (PV×PV)→PV
 |[]=>z
 |(a,v)::r=>if cV k.cells a.cells then v else dH k z r
def so(k:PV):List (PV×PV)→Bool
 |[]=>false
 |(a,_)::r=>cV k.cells a.cells||so k r
def eN(k v:PV):List (PV×PV)→List (PV×PV)
 |[]=>[(k,v)]
 |(a,u)::r=>if cV k.cells a.cells then(k,v)::r else(a,u)::eN k v r
def pg(k:PV):List (PV×PV)→List (PV×PV)
 |[]=>[]
 |(a,u)::r=>if cV k.cells a.cells then(a,.bad)::r else(a,u)::pg k r
def Fm(sz:Nat)(k:PV):List (PV×PV)→Option (List PV)
 |[]=>some []
 |(a,u)::r=>if cV k.cells a.cells then aT sz u else Fm sz k r
section
variable (P:Program)
def aO(t:TypeId):Nat:=((P.info? t).map (·.size)).getD 0
def Cc(t:TypeId):Nat:=((P.info? t).map (·.bytes)).getD 0
def aA(t:TypeId):Bool:=match P.underlying t with|some (.struct _)|some (.array _ _)=>true|_=>false
def nI(xe:TypeId→Option (List Kd)):List Field→Nat→Option (List Kd)
 |[],_=>some []
 |f::r,off=>if f.offset=off∧f.name≠ "_" then(xe f.type).bind fun a=>(nI xe r (off+a.length)).bind fun b=>some (a++b)else none
def nJ(a:List Kd):Nat→List Kd
 |0=>[]
 |n+1=>a++nJ a n
def xe:Nat→TypeId→Option (List Kd)
 |0,_=>none
 |d+1,t=>match P.underlying t with
  |some (.int q)=>some [.int q]
  |some .bool=>some [.bool]
  |some .string=>some [.str]
  |some (.struct fs)=>if P.stoodInHeld t then none else(nI (xe d) fs.toList 0).bind fun a=>if a.length=aO P t then some a else none
  |some (.array n e)=>(xe d e).bind fun a=>if a.length=aO P e∧n*a.length=aO P t then some (nJ a n)else none
  |_=>none
def rY(kt:TypeId)(ks:List Kd)(k:PV):Bool:=jj ks k.cells&&(aA P kt==k.isAgg)
def pj(t:TypeId):Option (List Kd):=if P.eqGuardType P.depth t then none else xe P 8 t
end
def xi:Value→V
 |.int k n=>if(Lit.int k n).wf then .pv (.int k n)else .top
 |.bool b=>.pv (.bool b)
 |.string s=>if s.data.toList.length≤maxLen then .pv (.str s.data.toList)else .top
 |.pointer none=>.pv .na
 |.slice none 0 0=>.ba
 |.map none=>.pv .sn
 |.nilFunc=>.pv .xh
 |.nilIface=>.pv (.Sl false)
 |_=>.top
def Ct:Value→V
 |.agg cs=>if cs.toList.all (fun c=>match c with|.agg _=>false|.tuple _=>false|_=>true)then .agg (cs.toList.map xi)else .top
 |v=>xi v
def zeroV(P:Program)(t:TypeId):Option V:=((P.info? t).bind (·.zero)).map Ct
def toCells(n:Nat):V→Option (List V)
 |.pv (.agg cs)=>if cs.length=n then some (cs.map .pv)else none
 |.agg cs=>if cs.length=n then some cs else none
 |.top|.bj _|.pv (.bj _)|.pv .bad=>none
 |v=>if n=1 then some [v]else none
def MQ:PV→Option PV
 |.fK s rs=>some (.rs s rs)
 |_=>none
def nK(f:V→Option PV):List V→Option (List PV)
 |[]=>some []
 |v::r=>(f v).bind fun p=>(nK f r).bind fun ps=>some (p::ps)
def iZ(m:Mem):Nat→V→Option PV
 |0,_=>none
 |_+1,.pv p=>some p
 |_+1,.ba=>some (.rs 0 [])
 |d+1,.agg cs=>(nK (iZ m d) cs).bind fun ps=>some (.agg ps)
 |d+1,.bj cs=>(nK (iZ m d) cs).bind fun ps=>some (.bj ps)
 |d+1,.fn g cs=>(nK (iZ m d) cs).bind fun ps=>some (.fn g ps)
 |_+1,.os id=>match m id with
  |some (.arr s _ es)=>some (.rs s es)
  |some (.nr s _ es)=>some (.rs s es)
  |some (.nest s _ es)=>some (.rs s (es.map PV.strip))
  |_=>none
 |_+1,.sD id i off=>match m id with
  |some (.nest _ _ es)=>(es[i]?).bind fun e=>MQ (cell e off)
  |_=>none
 |_+1,.ff id lo len=>match m id with
  |some (.arr s _ es)=>some (.rs s ((es.drop lo).take len))
  |some (.nr s _ es)=>some (.rs s ((es.drop lo).take len))
  |_=>none
 |d+1,.op id off=>match m id with
  |some (.box cs)=>(nK (iZ m d) (cs.drop off)).bind fun ps=>some (.rp ps)
  |_=>none
 |_+1,.oe id i off=>match m id with
  |some (.arr s _ es)=>(es[i]?).bind fun e=>some (.rp ((aI s e).drop off))
  |some (.nr s _ es)=>(es[i]?).bind fun e=>some (.rp ((aI s e).drop off))
  |_=>none
 |_+1,.om id=>match m id with
  |some (.map kt es)=>some (.rm kt (es.map (·.1)) (es.map (·.2)))
  |some (.eU kt _ es)=>some (.rm kt (es.map (·.1)) (es.map fun x=>x.2.lJ))
  |_=>none
 |_+1,_=>none
def eE:Nat:=6
def gm(f:V→List Nat):List V→List Nat
 |[]=>[]
 |v::r=>f v++gm f r
def cY(m:Mem):Nat→V→List Nat
 |0,_=>[]
 |d+1,.agg cs=>gm (cY m d) cs
 |d+1,.bj cs=>gm (cY m d) cs
 |d+1,.fn _ cs=>gm (cY m d) cs
 |_+1,.os id=>[id]
 |_+1,.ff id _ _=>[id]
 |_+1,.oe id _ _=>[id]
 |_+1,.om id=>[id]
 |_+1,.sD id _ _=>[id]
 |d+1,.op id off=>id::(match m id with|some (.box cs)=>gm (cY m d) (cs.drop off)|_=>[])
 |_+1,_=>[]
def zZ(m:Mem):V→Option (PV×Mem)
 |.pv p=>some (p,m)
 |.ba=>some (.rs 0 [],m)
 |.os id=>match m id with
  |some (.arr s et es)=>some (.rs s es,al m id (.nr s et es))
  |some (.nr s _ es)=>some (.rs s es,m)
  |some (.nest s et es)=>some (.rs s (es.map PV.strip),al m id (.nr s et (es.map PV.strip)))
  |_=>none
 |_=>none
def kh:Mem→List V→Option (List PV×Mem)
 |m,[]=>some ([],m)
 |m,v::r=>match zZ m v with
  |some (p,m)=>match kh m r with
   |some (ps,m)=>some (p::ps,m)
   |none=>none
  |none=>none
def qU(m:Mem):V→Option (PV×Mem)
 |.agg cs=>match kh m cs with
  |some (ps,m)=>some (.agg ps,m)
  |none=>none
 |v=>zZ m v
def iN(m:Mem)(n:Nat)(agg:Bool)(v:V):Option (PV×Mem):=
 match toCells n v with
 |some cs=>match kh m cs with
  |some (ps,m)=>if agg then some (.agg ps,m)else match ps with|[p]=>some (p,m)|_=>none
  |none=>none
 |none=>none
mutual
def V.has(id:Nat):V→Bool
 |.agg cs=>cq id cs
 |.bj cs=>cq id cs
 |.fn _ cs=>cq id cs
 |.os j=>Nat.beq j id
 |.ff j _ _=>Nat.beq j id
 |.oe j _ _=>Nat.beq j id
 |.om j=>Nat.beq j id
 |.sD j _ _=>Nat.beq j id
 |.vU j _ _ _ _ _=>Nat.beq j id
 |.op j _=>Nat.beq j id
 |.yl j=>Nat.beq j id
 |.it j=>Nat.beq j id
 |_=>false
def cq(id:Nat):List V→Bool
 |[]=>false
 |v::r=>v.has id||cq id r
end
mutual
def V.within(M:List Nat):V→Bool
 |.agg cs=>iO M cs
 |.bj cs=>iO M cs
 |.fn _ cs=>iO M cs
 |.os j=>M.elem j
 |.ff j _ _=>M.elem j
 |.oe j _ _=>M.elem j
 |.om j=>M.elem j
 |.sD j _ _=>M.elem j
 |.vU j _ _ _ _ _=>M.elem j
 |.op j _=>M.elem j
 |.yl j=>M.elem j
 |.it j=>M.elem j
 |_=>true
def iO(M:List Nat):List V→Bool
 |[]=>true
 |v::r=>v.within M&&iO M r
end
mutual
def V.sq(id:Nat):V→Bool
 |.agg cs=>vV id cs
 |.bj cs=>vV id cs
 |.fn _ cs=>vV id cs
 |.sD j _ _=>Nat.beq j id
 |.vU j _ _ _ _ _=>Nat.beq j id
 |_=>false
def vV(id:Nat):List V→Bool
 |[]=>false
 |v::r=>v.sq id||vV id r
end
def pk(id:Nat)(v:V):V:=bif v.has id then .top else v
def eO(id:Nat)(f:Fr):Fr:=fun t=>pk id (f t)
def fF(id:Nat):bI→bI
 |.box cs=>.box (cs.map (pk id))
 |b=>b
def bB(id:Nat)(m:Mem):Mem:=fun j=>match m j with|some b=>some (fF id b)|none=>none
def lK(id:Nat)(v:V):V:=bif v.sq id then .top else v
def gb(id:Nat)(f:Fr):Fr:=fun t=>lK id (f t)
def dL(id:Nat):bI→bI
 |.box cs=>.box (cs.map (lK id))
 |b=>b
def eS(id:Nat)(m:Mem):Mem:=fun j=>match m j with|some b=>some (dL id b)|none=>none
abbrev Kl:=List (Bool×Nat)
def kf:Kl→Fr→Fr
 |[],f=>f
 |(true,id)::r,f=>kf r (eO id f)
 |(false,id)::r,f=>kf r (gb id f)
def km:Kl→Mem→Mem
 |[],m=>m
 |(true,id)::r,m=>km r (aX (bB id m) id)
 |(false,id)::r,m=>km r (eS id m)
def qm:List (Nat×bI)→Mem→Mem
 |[],m=>m
 |(id,b)::r,m=>qm r (al m id b)
def bI.names:bI→Nat→Bool
 |.box cs,id=>cq id cs
 |_,_=>false
def bI.within(M:List Nat):bI→Bool
 |.box cs=>iO M cs
 |_=>true
end Go.Ab
