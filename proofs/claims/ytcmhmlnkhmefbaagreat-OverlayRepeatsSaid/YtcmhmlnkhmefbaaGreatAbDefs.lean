import GoSem.Step
import GoSem.ClaimData
import Derived.Calls
set_option linter.unusedVariables false
namespace Go.Ab
abbrev Bytes:=List UInt8
inductive PV where
 |int (k:IntKind) (n:Int)
 |bool (b:Bool)
 |str (s:Bytes)
 |agg (cs:List PV)
 |bl (vs:List PV)
 |ny
 |rp (cs:List PV)
 |rs (sz:Nat) (es:List PV)
 |fO (sz:Nat) (es:List PV)
 |sR
 |rm (kt:TypeId) (ks vs:List PV)
 |xR
 |fn (f:FuncId) (lV:List PV)
 |Tk (b:Bool)
 |bad
 deriving Inhabited
def PV.cells:PV→List PV
 |.agg cs=>cs
 |v=>[v]
def cell(p:PV)(j:Nat):PV:=p.cells.getD j .bad
def ky(p:PV):(j n:Nat)→List PV
 |_,0=>[]
 |j,n+1=>cell p j::ky p (j+1) n
def aL(sz:Nat)(p:PV):List PV:=ky p 0 sz
inductive YN where
 |ret
 |exit (id:Nat)
inductive Ir where
 |ready
 |busy
 |done (j:YN)
inductive V where
 |pv (p:PV)
 |bj
 |op (id off:Nat)
 |oe (id i off:Nat)
 |os (id:Nat)
 |fh (id lo len:Nat)
 |om (id:Nat)
 |tc (id i off:Nat)
 |wJ (id i off s j off2:Nat)
 |fn (f:FuncId) (lV:List V)
 |yl (id:Nat)
 |it (id:Nat)
 |agg (cs:List V)
 |bl (vs:List V)
 |top
 deriving Inhabited
inductive bK where
 |box (cs:List V)
 |arr (sz:Nat) (et:TypeId) (es:List PV)
 |nO (sz:Nat) (et:TypeId) (es:List PV)
 |map (kt:TypeId) (es:List (PV×PV))
 |nest (sz:Nat) (et:TypeId) (es:List PV)
 |eU (kt e:TypeId) (es:List (PV×PV))
 |loop (st:Ir)
 |iter (t:TypeId) (es:List (PV×PV)) (cur:Option (PV×PV))
 deriving Inhabited
abbrev Fr:=Nat→V
abbrev Mem:=Nat→Option bK
def fi(f:Fr)(d:Nat)(v:V):Fr:=fun t=>bif Nat.beq t d then v else f t
def gQ(f:Fr)(d:Option Nat)(v:V):Fr:=match d with|some d=>fi f d v|none=>f
def ao(m:Mem)(d:Nat)(b:bK):Mem:=fun t=>bif Nat.beq t d then some b else m t
def bg(m:Mem)(d:Nat):Mem:=fun t=>bif Nat.beq t d then none else m t
def IC:List (Nat×V)→Fr
 |[]=>fun _=>.top
 |(d,v)::r=>fi (IC r) d v
def AO:List (Nat×Option bK)→Mem
 |[]=>fun _=>none
 |(d,b)::r=>fun t=>bif Nat.beq t d then b else AO r t
abbrev bp:=List (Bool×Nat)
def asInt(q:IntKind):PV→Option Int
 |.int q' n=>if q'=q then some n else none
 |_=>none
def asBool:PV→Option Bool
 |.bool b=>some b
 |_=>none
def bx:PV→Option Bytes
 |.str s=>some s
 |_=>none
def Mb:PV→Option Bool
 |.Tk b=>some b
 |_=>none
def ab(sz:Nat):PV→Option (List PV)
 |.rs CE es=>if CE=sz then some es else match es with|[]=>some []|_=>none
 |_=>none
def bU(n:Nat):PV→Option (List PV)
 |.bl vs=>if vs.length=n then some vs else none
 |_=>none
def asAgg(n:Nat):PV→Option Unit
 |.agg cs=>if cs.length=n then some ()else none
 |_=>none
def aZ(sz:Nat):PV→Option (List PV)
 |.fO CE es=>if CE=sz then some es else none
 |_=>none
def PV.isRow:PV→Bool
 |.fO _ _=>true
 |_=>false
def PV.lW:PV→PV
 |.fO sz es=>.rs sz es
 |p=>p
def PV.strip:PV→PV
 |.agg cs=>.agg (cs.map PV.lW)
 |p=>p.lW
def bd(es:List PV)(i:Int):Option PV:=if 0≤i then es[i.toNat]? else none
def NJ(s:Bytes)(i:Int):Option UInt8:=if 0≤i then s[i.toNat]? else none
inductive Kd where
 |int (q:IntKind)
 |bool
 |str
def qO:Kd→PV→Bool
 |.int q,.int q' _=>decide (q'=q)
 |.bool,.bool _=>true
 |.str,.str _=>true
 |_,_=>false
def gR:List Kd→List PV→Bool
 |[],[]=>true
 |k::ks,p::ps=>qO k p&&gR ks ps
 |_,_=>false
def PV.isAgg:PV→Bool
 |.agg _=>true
 |_=>false
def PV.plain:PV→Bool
 |.bl _=>false
 |.bad=>false
 |_=>true
def peq:PV→PV→Bool
 |.int _ a,.int _ b=>a==b
 |.bool a,.bool b=>a==b
 |.str a,.str b=>a==b
 |_,_=>false
def cB:List PV→List PV→Bool
 |[],[]=>true
 |a::as,b::bs=>peq a b&&cB as bs
 |_,_=>false
def dL(k:PV)(z:PV):List (PV×PV)→PV
 |[]=>z
 |(a,v)::r=>if cB k.cells a.cells then v else dL k z r
def sS(k:PV):List (PV×PV)→Bool
 |[]=>false
 |(a,_)::r=>cB k.cells a.cells||sS k r
def eO(k v:PV):List (PV×PV)→List (PV×PV)
 |[]=>[(k,v)]
 |(a,u)::r=>if cB k.cells a.cells then(k,v)::r else(a,u)::eO k v r
def pK(k:PV):List (PV×PV)→List (PV×PV)
 |[]=>[]
 |(a,u)::r=>if cB k.cells a.cells then(a,.bad)::r else(a,u)::pK k r
def F0(sz:Nat)(k:PV):List (PV×PV)→Option (List PV)
 |[]=>some []
 |(a,u)::r=>if cB k.cells a.cells then aZ sz u else F0 sz k r
section
variable (P:Program)
def aT(t:TypeId):Nat:=((P.info? t).map (·.size)).getD 0
def CK(t:TypeId):Nat:=((P.info? t).map (·.bytes)).getD 0
def aF(t:TypeId):Bool:=match P.underlying t with|some (.struct _)|some (.array _ _)=>true|_=>false
def nZ(xO:TypeId→Option (List Kd)):List Field→Nat→Option (List Kd)
 |[],_=>some []
 |f::r,off=>if f.offset=off∧f.name≠ "_" then(xO f.type).bind fun a=>(nZ xO r (off+a.length)).bind fun b=>some (a++b)else none
def oa(a:List Kd):Nat→List Kd
 |0=>[]
 |n+1=>a++oa a n
def xO:Nat→TypeId→Option (List Kd)
 |0,_=>none
 |d+1,t=>match P.underlying t with
  |some (.int q)=>some [.int q]
  |some .bool=>some [.bool]
  |some .string=>some [.str]
  |some (.struct fs)=>if P.stoodInHeld t then none else(nZ (xO d) fs.toList 0).bind fun a=>if a.length=aT P t then some a else none
  |some (.array n e)=>(xO d e).bind fun a=>if a.length=aT P e∧n*a.length=aT P t then some (oa a n)else none
  |_=>none
def sG(kt:TypeId)(ks:List Kd)(k:PV):Bool:=gR ks k.cells&&(aF P kt==k.isAgg)
def pL(t:TypeId):Option (List Kd):=if P.eqGuardType P.depth t then none else xO P 8 t
end
def xS:Value→V
 |.int k n=>if(Lit.int k n).wf then .pv (.int k n)else .top
 |.bool b=>.pv (.bool b)
 |.string s=>if s.data.toList.length≤maxLen then .pv (.str s.data.toList)else .top
 |.pointer none=>.pv .ny
 |.slice none 0 0=>.bj
 |.map none=>.pv .sR
 |.nilFunc=>.pv .xR
 |.nilIface=>.pv (.Tk false)
 |_=>.top
def C3:Value→V
 |.agg cs=>if cs.toList.all (fun c=>match c with|.agg _=>false|.tuple _=>false|_=>true)then .agg (cs.toList.map xS)else .top
 |v=>xS v
def zeroV(P:Program)(t:TypeId):Option V:=((P.info? t).bind (·.zero)).map C3
def toCells(n:Nat):V→Option (List V)
 |.pv (.agg cs)=>if cs.length=n then some (cs.map .pv)else none
 |.agg cs=>if cs.length=n then some cs else none
 |.top|.bl _|.pv (.bl _)|.pv .bad=>none
 |v=>if n=1 then some [v]else none
def NK:PV→Option PV
 |.fO s rs=>some (.rs s rs)
 |_=>none
def ob(f:V→Option PV):List V→Option (List PV)
 |[]=>some []
 |v::r=>(f v).bind fun p=>(ob f r).bind fun ps=>some (p::ps)
def jm(m:Mem):Nat→V→Option PV
 |0,_=>none
 |_+1,.pv p=>some p
 |_+1,.bj=>some (.rs 0 [])
 |d+1,.agg cs=>(ob (jm m d) cs).bind fun ps=>some (.agg ps)
 |d+1,.bl cs=>(ob (jm m d) cs).bind fun ps=>some (.bl ps)
 |d+1,.fn g cs=>(ob (jm m d) cs).bind fun ps=>some (.fn g ps)
 |_+1,.os id=>match m id with
  |some (.arr s _ es)=>some (.rs s es)
  |some (.nO s _ es)=>some (.rs s es)
  |some (.nest s _ es)=>some (.rs s (es.map PV.strip))
  |_=>none
 |_+1,.tc id i off=>match m id with
  |some (.nest _ _ es)=>(es[i]?).bind fun e=>NK (cell e off)
  |_=>none
 |_+1,.fh id lo len=>match m id with
  |some (.arr s _ es)=>some (.rs s ((es.drop lo).take len))
  |some (.nO s _ es)=>some (.rs s ((es.drop lo).take len))
  |_=>none
 |d+1,.op id off=>match m id with
  |some (.box cs)=>(ob (jm m d) (cs.drop off)).bind fun ps=>some (.rp ps)
  |_=>none
 |_+1,.oe id i off=>match m id with
  |some (.arr s _ es)=>(es[i]?).bind fun e=>some (.rp ((aL s e).drop off))
  |some (.nO s _ es)=>(es[i]?).bind fun e=>some (.rp ((aL s e).drop off))
  |_=>none
 |_+1,.om id=>match m id with
  |some (.map kt es)=>some (.rm kt (es.map (·.1)) (es.map (·.2)))
  |some (.eU kt _ es)=>some (.rm kt (es.map (·.1)) (es.map fun x=>x.2.lW))
  |_=>none
 |_+1,_=>none
def eG:Nat:=6
def gA(f:V→List Nat):List V→List Nat
 |[]=>[]
 |v::r=>f v++gA f r
def cZ(m:Mem):Nat→V→List Nat
 |0,_=>[]
 |d+1,.agg cs=>gA (cZ m d) cs
 |d+1,.bl cs=>gA (cZ m d) cs
 |d+1,.fn _ cs=>gA (cZ m d) cs
 |_+1,.os id=>[id]
 |_+1,.fh id _ _=>[id]
 |_+1,.oe id _ _=>[id]
 |_+1,.om id=>[id]
 |_+1,.tc id _ _=>[id]
 |d+1,.op id off=>id::(match m id with|some (.box cs)=>gA (cZ m d) (cs.drop off)|_=>[])
 |_+1,_=>[]
def AP(m:Mem):V→Option (PV×Mem)
 |.pv p=>some (p,m)
 |.bj=>some (.rs 0 [],m)
 |.os id=>match m id with
  |some (.arr s et es)=>some (.rs s es,ao m id (.nO s et es))
  |some (.nO s _ es)=>some (.rs s es,m)
  |some (.nest s et es)=>some (.rs s (es.map PV.strip),ao m id (.nO s et (es.map PV.strip)))
  |_=>none
 |_=>none
def kz:Mem→List V→Option (List PV×Mem)
 |m,[]=>some ([],m)
 |m,v::r=>match AP m v with
  |some (p,m)=>match kz m r with
   |some (ps,m)=>some (p::ps,m)
   |none=>none
  |none=>none
def rO(m:Mem):V→Option (PV×Mem)
 |.agg cs=>match kz m cs with
  |some (ps,m)=>some (.agg ps,m)
  |none=>none
 |v=>AP m v
def iY(m:Mem)(n:Nat)(agg:Bool)(v:V):Option (PV×Mem):=
 match toCells n v with
 |some cs=>match kz m cs with
  |some (ps,m)=>if agg then some (.agg ps,m)else match ps with|[p]=>some (p,m)|_=>none
  |none=>none
 |none=>none
mutual
def V.has(id:Nat):V→Bool
 |.agg cs=>cr id cs
 |.bl cs=>cr id cs
 |.fn _ cs=>cr id cs
 |.os j=>Nat.beq j id
 |.fh j _ _=>Nat.beq j id
 |.oe j _ _=>Nat.beq j id
 |.om j=>Nat.beq j id
 |.tc j _ _=>Nat.beq j id
 |.wJ j _ _ _ _ _=>Nat.beq j id
 |.op j _=>Nat.beq j id
 |.yl j=>Nat.beq j id
 |.it j=>Nat.beq j id
 |_=>false
def cr(id:Nat):List V→Bool
 |[]=>false
 |v::r=>v.has id||cr id r
end
mutual
def V.within(M:List Nat):V→Bool
 |.agg cs=>iZ M cs
 |.bl cs=>iZ M cs
 |.fn _ cs=>iZ M cs
 |.os j=>M.elem j
 |.fh j _ _=>M.elem j
 |.oe j _ _=>M.elem j
 |.om j=>M.elem j
 |.tc j _ _=>M.elem j
 |.wJ j _ _ _ _ _=>M.elem j
 |.op j _=>M.elem j
 |.yl j=>M.elem j
 |.it j=>M.elem j
 |_=>true
def iZ(M:List Nat):List V→Bool
 |[]=>true
 |v::r=>v.within M&&iZ M r
end
mutual
def V.sT(id:Nat):V→Bool
 |.agg cs=>wK id cs
 |.bl cs=>wK id cs
 |.fn _ cs=>wK id cs
 |.tc j _ _=>Nat.beq j id
 |.wJ j _ _ _ _ _=>Nat.beq j id
 |_=>false
def wK(id:Nat):List V→Bool
 |[]=>false
 |v::r=>v.sT id||wK id r
end
def pM(id:Nat)(v:V):V:=bif v.has id then .top else v
def eP(id:Nat)(f:Fr):Fr:=fun t=>pM id (f t)
def fH(id:Nat):bK→bK
 |.box cs=>.box (cs.map (pM id))
 |b=>b
def bD(id:Nat)(m:Mem):Mem:=fun j=>match m j with|some b=>some (fH id b)|none=>none
def lX(id:Nat)(v:V):V:=bif v.sT id then .top else v
def gi(id:Nat)(f:Fr):Fr:=fun t=>lX id (f t)
def dP(id:Nat):bK→bK
 |.box cs=>.box (cs.map (lX id))
 |b=>b
def eS(id:Nat)(m:Mem):Mem:=fun j=>match m j with|some b=>some (dP id b)|none=>none
abbrev Kl:=List (Bool×Nat)
def kf:Kl→Fr→Fr
 |[],f=>f
 |(true,id)::r,f=>kf r (eP id f)
 |(false,id)::r,f=>kf r (gi id f)
def km:Kl→Mem→Mem
 |[],m=>m
 |(true,id)::r,m=>km r (bg (bD id m) id)
 |(false,id)::r,m=>km r (eS id m)
def qL:List (Nat×bK)→Mem→Mem
 |[],m=>m
 |(id,b)::r,m=>qL r (ao m id b)
def bK.names:bK→Nat→Bool
 |.box cs,id=>cr id cs
 |_,_=>false
def bK.within(M:List Nat):bK→Bool
 |.box cs=>iZ M cs
 |_=>true
end Go.Ab
