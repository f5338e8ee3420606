import GoSem.Step
import GoSem.ClaimData
import Derived.Calls
set_option linter.unusedVariables false
namespace Go.Ab
abbrev Bytes:=List UInt8
inductive PV where
 |int (k:IntKind) (n:Int)
 |bool (b:Bool)
 |str (s:Bytes)
 |agg (cs:List PV)
 |bA (vs:List PV)
 |lS
 |rp (cs:List PV)
 |rs (sz:Nat) (es:List PV)
 |gC (sz:Nat) (es:List PV)
 |qm
 |rm (kt:TypeId) (ks vs:List PV)
 |vb
 |fn (f:FuncId) (caps:List PV)
 |Pv (b:Bool)
 |bad
 deriving Inhabited
def PV.cells:PV→List PV
 |.agg cs=>cs
 |v=>[v]
def cell(p:PV)(j:Nat):PV:=p.cells.getD j .bad
def dL(p:PV):(j n:Nat)→List PV
 |_,0=>[]
 |j,n+1=>cell p j::dL p (j+1) n
def aA(sz:Nat)(p:PV):List PV:=dL p 0 sz
inductive UB where
 |ret
 |exit (id:Nat)
inductive Fo where
 |ready
 |busy
 |done (j:UB)
inductive V where
 |pv (p:PV)
 |aX
 |op (id off:Nat)
 |oe (id i off:Nat)
 |os (id:Nat)
 |eR (id lo len:Nat)
 |om (id:Nat)
 |qD (id i off:Nat)
 |tP (id i off s j off2:Nat)
 |fn (f:FuncId) (caps:List V)
 |yl (id:Nat)
 |it (id:Nat)
 |agg (cs:List V)
 |bA (vs:List V)
 |top
 deriving Inhabited
inductive bn where
 |box (cs:List V)
 |arr (sz:Nat) (et:TypeId) (es:List PV)
 |l6 (sz:Nat) (et:TypeId) (es:List PV)
 |map (kt:TypeId) (es:List (PV×PV))
 |nest (sz:Nat) (et:TypeId) (es:List PV)
 |eG (kt e:TypeId) (es:List (PV×PV))
 |loop (st:Fo)
 |iter (t:TypeId) (es:List (PV×PV)) (cur:Option (PV×PV))
 deriving Inhabited
abbrev Fr:=Nat→V
abbrev Mem:=Nat→Option bn
def eS(f:Fr)(d:Nat)(v:V):Fr:=fun t=>bif Nat.beq t d then v else f t
def gk(f:Fr)(d:Option Nat)(v:V):Fr:=match d with|some d=>eS f d v|none=>f
def ai(m:Mem)(d:Nat)(b:bn):Mem:=fun t=>bif Nat.beq t d then some b else m t
def aQ(m:Mem)(d:Nat):Mem:=fun t=>bif Nat.beq t d then none else m t
def FA:List (Nat×V)→Fr
 |[]=>fun _=>.top
 |(d,v)::r=>eS (FA r) d v
def xU:List (Nat×Option bn)→Mem
 |[]=>fun _=>none
 |(d,b)::r=>fun t=>bif Nat.beq t d then b else xU r t
abbrev aY:=List (Bool×Nat)
def asInt(q:IntKind):PV→Option Int
 |.int q' n=>if q'=q then some n else none
 |_=>none
def asBool:PV→Option Bool
 |.bool b=>some b
 |_=>none
def dh:PV→Option Bytes
 |.str s=>some s
 |_=>none
def IH:PV→Option Bool
 |.Pv b=>some b
 |_=>none
def ae(sz:Nat):PV→Option (List PV)
 |.rs An es=>if An=sz then some es else match es with|[]=>some []|_=>none
 |_=>none
def cB(n:Nat):PV→Option (List PV)
 |.bA vs=>if vs.length=n then some vs else none
 |_=>none
def asAgg(n:Nat):PV→Option Unit
 |.agg cs=>if cs.length=n then some ()else none
 |_=>none
def bj(sz:Nat):PV→Option (List PV)
 |.gC An es=>if An=sz then some es else none
 |_=>none
def PV.isRow:PV→Bool
 |.gC _ _=>true
 |_=>false
def PV.kE:PV→PV
 |.gC sz es=>.rs sz es
 |p=>p
def PV.strip:PV→PV
 |.agg cs=>.agg (cs.map PV.kE)
 |p=>p.kE
def da(es:List PV)(i:Int):Option PV:=if 0≤i then es[i.toNat]? else none
def Md(s:Bytes)(i:Int):Option UInt8:=if 0≤i then s[i.toNat]? else none
def tQ(s:Nat):List PV→List PV
 |[]=>[]
 |e::es=>aA s e++tQ s es
def kF(s n:Nat)(p:PV):List PV:=(List.range n).map fun i=>.agg (dL p (i*s) s)
def xq:Nat:=1000
inductive Kd where
 |int (q:IntKind)
 |bool
 |str
def oI:Kd→PV→Bool
 |.int q,.int q' _=>decide (q'=q)
 |.bool,.bool _=>true
 |.str,.str _=>true
 |_,_=>false
def iK:List Kd→List PV→Bool
 |[],[]=>true
 |k::ks,p::ps=>oI k p&&iK ks ps
 |_,_=>false
def PV.isAgg:PV→Bool
 |.agg _=>true
 |_=>false
def PV.plain:PV→Bool
 |.bA _=>false
 |.bad=>false
 |_=>true
def peq:PV→PV→Bool
 |.int _ a,.int _ b=>a==b
 |.bool a,.bool b=>a==b
 |.str a,.str b=>a==b
 |_,_=>false
def cA:List PV→List PV→Bool
 |[],[]=>true
 |a::as,b::bs=>peq a b&&cA as bs
 |_,_=>false
def dB(k:PV)(z:PV):List (PV×PV)→PV
 |[]=>z
 |(a,v)::r=>if cA k.cells a.cells then v else dB k z r
def qn(k:PV):List (PV×PV)→Bool
 |[]=>false
 |(a,_)::r=>cA k.cells a.cells||qn k r
def eA(k v:PV):List (PV×PV)→List (PV×PV)
 |[]=>[(k,v)]
 |(a,u)::r=>if cA k.cells a.cells then(k,v)::r else(a,u)::eA k v r
def nA(k:PV):List (PV×PV)→List (PV×PV)
 |[]=>[]
 |(a,u)::r=>if cA k.cells a.cells then(a,.bad)::r else(a,u)::nA k r
def Dl(sz:Nat)(k:PV):List (PV×PV)→Option (List PV)
 |[]=>some []
 |(a,u)::r=>if cA k.cells a.cells then bj sz u else Dl sz k r
section
variable (P:Program)
def aH(t:TypeId):Nat:=((P.info? t).map (·.size)).getD 0
def Au(t:TypeId):Nat:=((P.info? t).map (·.bytes)).getD 0
def aq(t:TypeId):Bool:=match P.underlying t with|some (.struct _)|some (.array _ _)=>true|_=>false
def ml(uZ:TypeId→Option (List Kd)):List Field→Nat→Option (List Kd)
 |[],_=>some []
 |f::r,off=>if f.offset=off∧f.name≠ "_" then(uZ f.type).bind fun a=>(ml uZ r (off+a.length)).bind fun b=>some (a++b)else none
def mn(a:List Kd):Nat→List Kd
 |0=>[]
 |n+1=>a++mn a n
def uZ:Nat→TypeId→Option (List Kd)
 |0,_=>none
 |d+1,t=>match P.underlying t with
  |some (.int q)=>some [.int q]
  |some .bool=>some [.bool]
  |some .string=>some [.str]
  |some (.struct fs)=>if P.stoodInHeld t then none else(ml (uZ d) fs.toList 0).bind fun a=>if a.length=aH P t then some a else none
  |some (.array n e)=>(uZ d e).bind fun a=>if a.length=aH P e∧n*a.length=aH P t then some (mn a n)else none
  |_=>none
def pU(kt:TypeId)(ks:List Kd)(k:PV):Bool:=iK ks k.cells&&(aq P kt==k.isAgg)
def nB(t:TypeId):Option (List Kd):=if P.eqGuardType P.depth t then none else uZ P 8 t
end
def vc:Value→V
 |.int k n=>if(Lit.int k n).wf then .pv (.int k n)else .top
 |.bool b=>.pv (.bool b)
 |.string s=>if s.data.toList.length≤maxLen then .pv (.str s.data.toList)else .top
 |.pointer none=>.pv .lS
 |.slice none 0 0=>.aX
 |.map none=>.pv .qm
 |.nilFunc=>.pv .vb
 |.nilIface=>.pv (.Pv false)
 |_=>.top
def AL:Value→V
 |.agg cs=>if cs.toList.all (fun c=>match c with|.agg _=>false|.tuple _=>false|_=>true)then .agg (cs.toList.map vc)else .top
 |v=>vc v
def zeroV(P:Program)(t:TypeId):Option V:=((P.info? t).bind (·.zero)).map AL
def toCells(n:Nat):V→Option (List V)
 |.pv (.agg cs)=>if cs.length=n then some (cs.map .pv)else none
 |.agg cs=>if cs.length=n then some cs else none
 |.top|.bA _|.pv (.bA _)|.pv .bad=>none
 |v=>if n=1 then some [v]else none
def J8:PV→Option PV
 |.gC s rs=>some (.rs s rs)
 |_=>none
def lT(f:V→Option PV):List V→Option (List PV)
 |[]=>some []
 |v::r=>(f v).bind fun p=>(lT f r).bind fun ps=>some (p::ps)
def iB(m:Mem):Nat→V→Option PV
 |0,_=>none
 |_+1,.pv p=>some p
 |_+1,.aX=>some (.rs 0 [])
 |d+1,.agg cs=>(lT (iB m d) cs).bind fun ps=>some (.agg ps)
 |d+1,.bA cs=>(lT (iB m d) cs).bind fun ps=>some (.bA ps)
 |d+1,.fn g cs=>(lT (iB m d) cs).bind fun ps=>some (.fn g ps)
 |_+1,.os id=>match m id with
  |some (.arr s _ es)=>some (.rs s es)
  |some (.l6 s _ es)=>some (.rs s es)
  |some (.nest s _ es)=>some (.rs s (es.map PV.strip))
  |_=>none
 |_+1,.qD id i off=>match m id with
  |some (.nest _ _ es)=>(es[i]?).bind fun e=>J8 (cell e off)
  |_=>none
 |_+1,.eR id lo len=>match m id with
  |some (.arr s _ es)=>some (.rs s ((es.drop lo).take len))
  |some (.l6 s _ es)=>some (.rs s ((es.drop lo).take len))
  |_=>none
 |d+1,.op id off=>match m id with
  |some (.box cs)=>(lT (iB m d) (cs.drop off)).bind fun ps=>some (.rp ps)
  |_=>none
 |_+1,.oe id i off=>match m id with
  |some (.arr s _ es)=>(es[i]?).bind fun e=>some (.rp ((aA s e).drop off))
  |some (.l6 s _ es)=>(es[i]?).bind fun e=>some (.rp ((aA s e).drop off))
  |_=>none
 |_+1,.om id=>match m id with
  |some (.map kt es)=>some (.rm kt (es.map (·.1)) (es.map (·.2)))
  |some (.eG kt _ es)=>some (.rm kt (es.map (·.1)) (es.map fun x=>x.2.kE))
  |_=>none
 |_+1,_=>none
def ek:Nat:=6
def fS(f:V→List Nat):List V→List Nat
 |[]=>[]
 |v::r=>f v++fS f r
def cD(m:Mem):Nat→V→List Nat
 |0,_=>[]
 |d+1,.agg cs=>fS (cD m d) cs
 |d+1,.bA cs=>fS (cD m d) cs
 |d+1,.fn _ cs=>fS (cD m d) cs
 |_+1,.os id=>[id]
 |_+1,.eR id _ _=>[id]
 |_+1,.oe id _ _=>[id]
 |_+1,.om id=>[id]
 |_+1,.qD id _ _=>[id]
 |d+1,.op id off=>id::(match m id with|some (.box cs)=>fS (cD m d) (cs.drop off)|_=>[])
 |_+1,_=>[]
def xV(m:Mem):V→Option (PV×Mem)
 |.pv p=>some (p,m)
 |.aX=>some (.rs 0 [],m)
 |.os id=>match m id with
  |some (.arr s et es)=>some (.rs s es,ai m id (.l6 s et es))
  |some (.l6 s _ es)=>some (.rs s es,m)
  |some (.nest s et es)=>some (.rs s (es.map PV.strip),ai m id (.l6 s et (es.map PV.strip)))
  |_=>none
 |_=>none
def jz:Mem→List V→Option (List PV×Mem)
 |m,[]=>some ([],m)
 |m,v::r=>match xV m v with
  |some (p,m)=>match jz m r with
   |some (ps,m)=>some (p::ps,m)
   |none=>none
  |none=>none
def pd(m:Mem):V→Option (PV×Mem)
 |.agg cs=>match jz m cs with
  |some (ps,m)=>some (.agg ps,m)
  |none=>none
 |v=>xV m v
def hZ(m:Mem)(n:Nat)(agg:Bool)(v:V):Option (PV×Mem):=
 match toCells n v with
 |some cs=>match jz m cs with
  |some (ps,m)=>if agg then some (.agg ps,m)else match ps with|[p]=>some (p,m)|_=>none
  |none=>none
 |none=>none
mutual
def V.has(id:Nat):V→Bool
 |.agg cs=>bO id cs
 |.bA cs=>bO id cs
 |.fn _ cs=>bO id cs
 |.os j=>Nat.beq j id
 |.eR j _ _=>Nat.beq j id
 |.oe j _ _=>Nat.beq j id
 |.om j=>Nat.beq j id
 |.qD j _ _=>Nat.beq j id
 |.tP j _ _ _ _ _=>Nat.beq j id
 |.op j _=>Nat.beq j id
 |.yl j=>Nat.beq j id
 |.it j=>Nat.beq j id
 |_=>false
def bO(id:Nat):List V→Bool
 |[]=>false
 |v::r=>v.has id||bO id r
end
mutual
def V.within(M:List Nat):V→Bool
 |.agg cs=>ia M cs
 |.bA cs=>ia M cs
 |.fn _ cs=>ia M cs
 |.os j=>M.elem j
 |.eR j _ _=>M.elem j
 |.oe j _ _=>M.elem j
 |.om j=>M.elem j
 |.qD j _ _=>M.elem j
 |.tP j _ _ _ _ _=>M.elem j
 |.op j _=>M.elem j
 |.yl j=>M.elem j
 |.it j=>M.elem j
 |_=>true
def ia(M:List Nat):List V→Bool
 |[]=>true
 |v::r=>v.within M&&ia M r
end
mutual
def V.qo(id:Nat):V→Bool
 |.agg cs=>tR id cs
 |.bA cs=>tR id cs
 |.fn _ cs=>tR id cs
 |.qD j _ _=>Nat.beq j id
 |.tP j _ _ _ _ _=>Nat.beq j id
 |_=>false
def tR(id:Nat):List V→Bool
 |[]=>false
 |v::r=>v.qo id||tR id r
end
def nC(id:Nat)(v:V):V:=bif v.has id then .top else v
def eB(id:Nat)(f:Fr):Fr:=fun t=>nC id (f t)
def ff(id:Nat):bn→bn
 |.box cs=>.box (cs.map (nC id))
 |b=>b
def bk(id:Nat)(m:Mem):Mem:=fun j=>match m j with|some b=>some (ff id b)|none=>none
def kG(id:Nat)(v:V):V:=bif v.qo id then .top else v
def fH(id:Nat)(f:Fr):Fr:=fun t=>kG id (f t)
def dE(id:Nat):bn→bn
 |.box cs=>.box (cs.map (kG id))
 |b=>b
def eE(id:Nat)(m:Mem):Mem:=fun j=>match m j with|some b=>some (dE id b)|none=>none
abbrev Kl:=List (Bool×Nat)
def kf:Kl→Fr→Fr
 |[],f=>f
 |(true,id)::r,f=>kf r (eB id f)
 |(false,id)::r,f=>kf r (fH id f)
def km:Kl→Mem→Mem
 |[],m=>m
 |(true,id)::r,m=>km r (aQ (bk id m) id)
 |(false,id)::r,m=>km r (eE id m)
def oG:List (Nat×bn)→Mem→Mem
 |[],m=>m
 |(id,b)::r,m=>oG r (ai m id b)
def bn.names:bn→Nat→Bool
 |.box cs,id=>bO id cs
 |_,_=>false
def bn.within(M:List Nat):bn→Bool
 |.box cs=>ia M cs
 |_=>true
end Go.Ab
