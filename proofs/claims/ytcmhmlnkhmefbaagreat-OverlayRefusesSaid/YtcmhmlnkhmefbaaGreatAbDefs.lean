import GoSem.Step
import GoSem.ClaimData
import Derived.Calls
set_option linter.unusedVariables false
namespace Go.Ab
abbrev Bytes:=List UInt8
inductive PV where
 |int (k:IntKind) (n:Int)
 |bool (b:Bool)
 |str (s:Bytes)
 |agg (cs:List PV)
 |bl (vs:List PV)
 |nA
 |rp (cs:List PV)
 |rs (sz:Nat) (es:List PV)
 |fO (sz:Nat) (es:List PV)
 |sN
 |rm (kt:TypeId) (ks vs:List PV)
 |xL
 |fn (f:FuncId) (lW:List PV)
 |Tb (b:Bool)
 |bad
 deriving Inhabited
def PV.cells:PV→List PV
 |.agg cs=>cs
 |v=>[v]
def cell(p:PV)(j:Nat):PV:=p.cells.getD j .bad
def kz(p:PV):(j n:Nat)→List PV
 |_,0=>[]
 |j,n+1=>cell p j::kz p (j+1) n
def aL(sz:Nat)(p:PV):List PV:=kz p 0 sz
inductive Yz where
 |ret
 |exit (id:Nat)
inductive Ih where
 |ready
 |busy
 |done (j:Yz)
inductive V where
 |pv (p:PV)
 |bh
 |op (id off:Nat)
 |oe (id i off:Nat)
 |os (id:Nat)
 |fi (id lo len:Nat)
 |om (id:Nat)
 |sX (id i off:Nat)
 |wE (id i off s j off2:Nat)
 |fn (f:FuncId) (lW:List V)
 |yl (id:Nat)
 |it (id:Nat)
 |agg (cs:List V)
 |bl (vs:List V)
 |top
 deriving Inhabited
inductive bK where
 |box (cs:List V)
 |arr (sz:Nat) (et:TypeId) (es:List PV)
 |nM (sz:Nat) (et:TypeId) (es:List PV)
 |map (kt:TypeId) (es:List (PV×PV))
 |nest (sz:Nat) (et:TypeId) (es:List PV)
 |eV (kt e:TypeId) (es:List (PV×PV))
 |loop (st:Ih)
 |iter (t:TypeId) (es:List (PV×PV)) (cur:Option (PV×PV))
 deriving Inhabited
abbrev Fr:=Nat→V
abbrev Mem:=Nat→Option bK
def fj(f:Fr)(d:Nat)(v:V):Fr:=fun t=>bif Nat.beq t d then v else f t
def gO(f:Fr)(d:Option Nat)(v:V):Fr:=match d with|some d=>fj f d v|none=>f
def ao(m:Mem)(d:Nat)(b:bK):Mem:=fun t=>bif Nat.beq t d then some b else m t
def bg(m:Mem)(d:Nat):Mem:=fun t=>bif Nat.beq t d then none else m t
def It:List (Nat×V)→Fr
 |[]=>fun _=>.top
 |(d,v)::r=>fj (It r) d v
def AE:List (Nat×Option bK)→Mem
 |[]=>fun _=>none
 |(d,b)::r=>fun t=>bif Nat.beq t d then b else AE r t
abbrev bn:=List (Bool×Nat)
def asInt(q:IntKind):PV→Option Int
 |.int q' n=>if q'=q then some n else none
 |_=>none
def asBool:PV→Option Bool
 |.bool b=>some b
 |_=>none
def bu:PV→Option Bytes
 |.str s=>some s
 |_=>none
def LZ:PV→Option Bool
 |.Tb b=>some b
 |_=>none
def ae(sz:Nat):PV→Option (List PV)
 |.rs Cy es=>if Cy=sz then some es else match es with|[]=>some []|_=>none
 |_=>none
def ca(n:Nat):PV→Option (List PV)
 |.bl vs=>if vs.length=n then some vs else none
 |_=>none
def asAgg(n:Nat):PV→Option Unit
 |.agg cs=>if cs.length=n then some ()else none
 |_=>none
def aY(sz:Nat):PV→Option (List PV)
 |.fO Cy es=>if Cy=sz then some es else none
 |_=>none
def PV.isRow:PV→Bool
 |.fO _ _=>true
 |_=>false
def PV.lX:PV→PV
 |.fO sz es=>.rs sz es
 |p=>p
def PV.strip:PV→PV
 |.agg cs=>.agg (cs.map PV.lX)
 |p=>p.lX
def bd(es:List PV)(i:Int):Option PV:=if 0≤i then es[i.toNat]? else none
def Ny(s:Bytes)(i:Int):Option UInt8:=if 0≤i then s[i.toNat]? else none
inductive Kd where
 |int (q:IntKind)
 |bool
 |str
def qO:Kd→PV→Bool
 |.int q,.int q' _=>decide (q'=q)
 |.bool,.bool _=>true
 |.str,.str _=>true
 |_,_=>false
def gP:List Kd→List PV→Bool
 |[],[]=>true
 |k::ks,p::ps=>qO k p&&gP ks ps
 |_,_=>false
def PV.isAgg:PV→Bool
 |.agg _=>true
 |_=>false
def PV.plain:PV→Bool
 |.bl _=>false
 |.bad=>false
 |_=>true
def peq:PV→PV→Bool
 |.int _ a,.int _ b=>a==b
 |.bool a,.bool b=>a==b
 |.str a,.str b=>a==b
 |_,_=>false
def cB:List PV→List PV→Bool
 |[],[]=>true
 |a::as,b::bs=>peq a b&&cB as bs
 |_,_=>false
def dJ(k:PV)(z:PV):List (PV×PV)→PV
 |[]=>z
 |(a,v)::r=>if cB k.cells a.cells then v else dJ k z r
def sO(k:PV):List (PV×PV)→Bool
 |[]=>false
 |(a,_)::r=>cB k.cells a.cells||sO k r
def eO(k v:PV):List (PV×PV)→List (PV×PV)
 |[]=>[(k,v)]
 |(a,u)::r=>if cB k.cells a.cells then(k,v)::r else(a,u)::eO k v r
def pH(k:PV):List (PV×PV)→List (PV×PV)
 |[]=>[]
 |(a,u)::r=>if cB k.cells a.cells then(a,.bad)::r else(a,u)::pH k r
def FT(sz:Nat)(k:PV):List (PV×PV)→Option (List PV)
 |[]=>some []
 |(a,u)::r=>if cB k.cells a.cells then aY sz u else FT sz k r
section
variable (P:Program)
def aT(t:TypeId):Nat:=((P.info? t).map (·.size)).getD 0
def CE(t:TypeId):Nat:=((P.info? t).map (·.bytes)).getD 0
def aF(t:TypeId):Bool:=match P.underlying t with|some (.struct _)|some (.array _ _)=>true|_=>false
def nX(xJ:TypeId→Option (List Kd)):List Field→Nat→Option (List Kd)
 |[],_=>some []
 |f::r,off=>if f.offset=off∧f.name≠ "_" then(xJ f.type).bind fun a=>(nX xJ r (off+a.length)).bind fun b=>some (a++b)else none
def nY(a:List Kd):Nat→List Kd
 |0=>[]
 |n+1=>a++nY a n
def xJ:Nat→TypeId→Option (List Kd)
 |0,_=>none
 |d+1,t=>match P.underlying t with
  |some (.int q)=>some [.int q]
  |some .bool=>some [.bool]
  |some .string=>some [.str]
  |some (.struct fs)=>if P.stoodInHeld t then none else(nX (xJ d) fs.toList 0).bind fun a=>if a.length=aT P t then some a else none
  |some (.array n e)=>(xJ d e).bind fun a=>if a.length=aT P e∧n*a.length=aT P t then some (nY a n)else none
  |_=>none
def sB(kt:TypeId)(ks:List Kd)(k:PV):Bool:=gP ks k.cells&&(aF P kt==k.isAgg)
def pI(t:TypeId):Option (List Kd):=if P.eqGuardType P.depth t then none else xJ P 8 t
end
def xM:Value→V
 |.int k n=>if(Lit.int k n).wf then .pv (.int k n)else .top
 |.bool b=>.pv (.bool b)
 |.string s=>if s.data.toList.length≤maxLen then .pv (.str s.data.toList)else .top
 |.pointer none=>.pv .nA
 |.slice none 0 0=>.bh
 |.map none=>.pv .sN
 |.nilFunc=>.pv .xL
 |.nilIface=>.pv (.Tb false)
 |_=>.top
def CW:Value→V
 |.agg cs=>if cs.toList.all (fun c=>match c with|.agg _=>false|.tuple _=>false|_=>true)then .agg (cs.toList.map xM)else .top
 |v=>xM v
def zeroV(P:Program)(t:TypeId):Option V:=((P.info? t).bind (·.zero)).map CW
def toCells(n:Nat):V→Option (List V)
 |.pv (.agg cs)=>if cs.length=n then some (cs.map .pv)else none
 |.agg cs=>if cs.length=n then some cs else none
 |.top|.bl _|.pv (.bl _)|.pv .bad=>none
 |v=>if n=1 then some [v]else none
def Nz:PV→Option PV
 |.fO s rs=>some (.rs s rs)
 |_=>none
def nZ(f:V→Option PV):List V→Option (List PV)
 |[]=>some []
 |v::r=>(f v).bind fun p=>(nZ f r).bind fun ps=>some (p::ps)
def jn(m:Mem):Nat→V→Option PV
 |0,_=>none
 |_+1,.pv p=>some p
 |_+1,.bh=>some (.rs 0 [])
 |d+1,.agg cs=>(nZ (jn m d) cs).bind fun ps=>some (.agg ps)
 |d+1,.bl cs=>(nZ (jn m d) cs).bind fun ps=>some (.bl ps)
 |d+1,.fn g cs=>(nZ (jn m d) cs).bind fun ps=>some (.fn g ps)
 |_+1,.os id=>match m id with
  |some (.arr s _ es)=>some (.rs s es)
  |some (.nM s _ es)=>some (.rs s es)
  |some (.nest s _ es)=>some (.rs s (es.map PV.strip))
  |_=>none
 |_+1,.sX id i off=>match m id with
  |some (.nest _ _ es)=>(es[i]?).bind fun e=>Nz (cell e off)
  |_=>none
 |_+1,.fi id lo len=>match m id with
  |some (.arr s _ es)=>some (.rs s ((es.drop lo).take len))
  |some (.nM s _ es)=>some (.rs s ((es.drop lo).take len))
  |_=>none
 |d+1,.op id off=>match m id with
  |some (.box cs)=>(nZ (jn m d) (cs.drop off)).bind fun ps=>some (.rp ps)
  |_=>none
 |_+1,.oe id i off=>match m id with
  |some (.arr s _ es)=>(es[i]?).bind fun e=>some (.rp ((aL s e).drop off))
  |some (.nM s _ es)=>(es[i]?).bind fun e=>some (.rp ((aL s e).drop off))
  |_=>none
 |_+1,.om id=>match m id with
  |some (.map kt es)=>some (.rm kt (es.map (·.1)) (es.map (·.2)))
  |some (.eV kt _ es)=>some (.rm kt (es.map (·.1)) (es.map fun x=>x.2.lX))
  |_=>none
 |_+1,_=>none
def eF:Nat:=6
def gz(f:V→List Nat):List V→List Nat
 |[]=>[]
 |v::r=>f v++gz f r
def cZ(m:Mem):Nat→V→List Nat
 |0,_=>[]
 |d+1,.agg cs=>gz (cZ m d) cs
 |d+1,.bl cs=>gz (cZ m d) cs
 |d+1,.fn _ cs=>gz (cZ m d) cs
 |_+1,.os id=>[id]
 |_+1,.fi id _ _=>[id]
 |_+1,.oe id _ _=>[id]
 |_+1,.om id=>[id]
 |_+1,.sX id _ _=>[id]
 |d+1,.op id off=>id::(match m id with|some (.box cs)=>gz (cZ m d) (cs.drop off)|_=>[])
 |_+1,_=>[]
def AF(m:Mem):V→Option (PV×Mem)
 |.pv p=>some (p,m)
 |.bh=>some (.rs 0 [],m)
 |.os id=>match m id with
  |some (.arr s et es)=>some (.rs s es,ao m id (.nM s et es))
  |some (.nM s _ es)=>some (.rs s es,m)
  |some (.nest s et es)=>some (.rs s (es.map PV.strip),ao m id (.nM s et (es.map PV.strip)))
  |_=>none
 |_=>none
def kA:Mem→List V→Option (List PV×Mem)
 |m,[]=>some ([],m)
 |m,v::r=>match AF m v with
  |some (p,m)=>match kA m r with
   |some (ps,m)=>some (p::ps,m)
   |none=>none
  |none=>none
def rL(m:Mem):V→Option (PV×Mem)
 |.agg cs=>match kA m cs with
  |some (ps,m)=>some (.agg ps,m)
  |none=>none
 |v=>AF m v
def iZ(m:Mem)(n:Nat)(agg:Bool)(v:V):Option (PV×Mem):=
 match toCells n v with
 |some cs=>match kA m cs with
  |some (ps,m)=>if agg then some (.agg ps,m)else match ps with|[p]=>some (p,m)|_=>none
  |none=>none
 |none=>none
mutual
def V.has(id:Nat):V→Bool
 |.agg cs=>cr id cs
 |.bl cs=>cr id cs
 |.fn _ cs=>cr id cs
 |.os j=>Nat.beq j id
 |.fi j _ _=>Nat.beq j id
 |.oe j _ _=>Nat.beq j id
 |.om j=>Nat.beq j id
 |.sX j _ _=>Nat.beq j id
 |.wE j _ _ _ _ _=>Nat.beq j id
 |.op j _=>Nat.beq j id
 |.yl j=>Nat.beq j id
 |.it j=>Nat.beq j id
 |_=>false
def cr(id:Nat):List V→Bool
 |[]=>false
 |v::r=>v.has id||cr id r
end
mutual
def V.within(M:List Nat):V→Bool
 |.agg cs=>ja M cs
 |.bl cs=>ja M cs
 |.fn _ cs=>ja M cs
 |.os j=>M.elem j
 |.fi j _ _=>M.elem j
 |.oe j _ _=>M.elem j
 |.om j=>M.elem j
 |.sX j _ _=>M.elem j
 |.wE j _ _ _ _ _=>M.elem j
 |.op j _=>M.elem j
 |.yl j=>M.elem j
 |.it j=>M.elem j
 |_=>true
def ja(M:List Nat):List V→Bool
 |[]=>true
 |v::r=>v.within M&&ja M r
end
mutual
def V.sP(id:Nat):V→Bool
 |.agg cs=>wF id cs
 |.bl cs=>wF id cs
 |.fn _ cs=>wF id cs
 |.sX j _ _=>Nat.beq j id
 |.wE j _ _ _ _ _=>Nat.beq j id
 |_=>false
def wF(id:Nat):List V→Bool
 |[]=>false
 |v::r=>v.sP id||wF id r
end
def pJ(id:Nat)(v:V):V:=bif v.has id then .top else v
def eP(id:Nat)(f:Fr):Fr:=fun t=>pJ id (f t)
def fH(id:Nat):bK→bK
 |.box cs=>.box (cs.map (pJ id))
 |b=>b
def bB(id:Nat)(m:Mem):Mem:=fun j=>match m j with|some b=>some (fH id b)|none=>none
def lY(id:Nat)(v:V):V:=bif v.sP id then .top else v
def gh(id:Nat)(f:Fr):Fr:=fun t=>lY id (f t)
def dN(id:Nat):bK→bK
 |.box cs=>.box (cs.map (lY id))
 |b=>b
def eS(id:Nat)(m:Mem):Mem:=fun j=>match m j with|some b=>some (dN id b)|none=>none
abbrev Kl:=List (Bool×Nat)
def kf:Kl→Fr→Fr
 |[],f=>f
 |(true,id)::r,f=>kf r (eP id f)
 |(false,id)::r,f=>kf r (gh id f)
def km:Kl→Mem→Mem
 |[],m=>m
 |(true,id)::r,m=>km r (bg (bB id m) id)
 |(false,id)::r,m=>km r (eS id m)
def qL:List (Nat×bK)→Mem→Mem
 |[],m=>m
 |(id,b)::r,m=>qL r (ao m id b)
def bK.names:bK→Nat→Bool
 |.box cs,id=>cr id cs
 |_,_=>false
def bK.within(M:List Nat):bK→Bool
 |.box cs=>ja M cs
 |_=>true
end Go.Ab
