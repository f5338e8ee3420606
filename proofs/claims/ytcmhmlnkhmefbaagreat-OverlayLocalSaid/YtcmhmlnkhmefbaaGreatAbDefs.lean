import GoSem.Step
import GoSem.ClaimData
import Derived.Calls
set_option linter.unusedVariables false
namespace Go.Ab
abbrev Bytes:=List UInt8
inductive PV where
 |int (k:IntKind) (n:Int)
 |bool (b:Bool)
 |str (s:Bytes)
 |agg (cs:List PV)
 |bl (vs:List PV)
 |nD
 |rp (cs:List PV)
 |rs (sz:Nat) (es:List PV)
 |fQ (sz:Nat) (es:List PV)
 |sR
 |rm (kt:TypeId) (ks vs:List PV)
 |xT
 |fn (f:FuncId) (lY:List PV)
 |Tm (b:Bool)
 |bad
 deriving Inhabited
def PV.cells:PV→List PV
 |.agg cs=>cs
 |v=>[v]
def cell(p:PV)(j:Nat):PV:=p.cells.getD j .bad
def kB(p:PV):(j n:Nat)→List PV
 |_,0=>[]
 |j,n+1=>cell p j::kB p (j+1) n
def aL(sz:Nat)(p:PV):List PV:=kB p 0 sz
inductive YX where
 |ret
 |exit (id:Nat)
inductive Ix where
 |ready
 |busy
 |done (j:YX)
inductive V where
 |pv (p:PV)
 |bk
 |op (id off:Nat)
 |oe (id i off:Nat)
 |os (id:Nat)
 |fj (id lo len:Nat)
 |om (id:Nat)
 |tc (id i off:Nat)
 |wL (id i off s j off2:Nat)
 |fn (f:FuncId) (lY:List V)
 |yl (id:Nat)
 |it (id:Nat)
 |agg (cs:List V)
 |bl (vs:List V)
 |top
 deriving Inhabited
inductive bL where
 |box (cs:List V)
 |arr (sz:Nat) (et:TypeId) (es:List PV)
 |nP (sz:Nat) (et:TypeId) (es:List PV)
 |map (kt:TypeId) (es:List (PV×PV))
 |nest (sz:Nat) (et:TypeId) (es:List PV)
 |eX (kt e:TypeId) (es:List (PV×PV))
 |loop (st:Ix)
 |iter (t:TypeId) (es:List (PV×PV)) (cur:Option (PV×PV))
 deriving Inhabited
abbrev Fr:=Nat→V
abbrev Mem:=Nat→Option bL
def fk(f:Fr)(d:Nat)(v:V):Fr:=fun t=>bif Nat.beq t d then v else f t
def gT(f:Fr)(d:Option Nat)(v:V):Fr:=match d with|some d=>fk f d v|none=>f
def ao(m:Mem)(d:Nat)(b:bL):Mem:=fun t=>bif Nat.beq t d then some b else m t
def bh(m:Mem)(d:Nat):Mem:=fun t=>bif Nat.beq t d then none else m t
def IG:List (Nat×V)→Fr
 |[]=>fun _=>.top
 |(d,v)::r=>fk (IG r) d v
def AO:List (Nat×Option bL)→Mem
 |[]=>fun _=>none
 |(d,b)::r=>fun t=>bif Nat.beq t d then b else AO r t
abbrev bp:=List (Bool×Nat)
def asInt(q:IntKind):PV→Option Int
 |.int q' n=>if q'=q then some n else none
 |_=>none
def asBool:PV→Option Bool
 |.bool b=>some b
 |_=>none
def bB:PV→Option Bytes
 |.str s=>some s
 |_=>none
def Md:PV→Option Bool
 |.Tm b=>some b
 |_=>none
def ab(sz:Nat):PV→Option (List PV)
 |.rs CG es=>if CG=sz then some es else match es with|[]=>some []|_=>none
 |_=>none
def bV(n:Nat):PV→Option (List PV)
 |.bl vs=>if vs.length=n then some vs else none
 |_=>none
def asAgg(n:Nat):PV→Option Unit
 |.agg cs=>if cs.length=n then some ()else none
 |_=>none
def aY(sz:Nat):PV→Option (List PV)
 |.fQ CG es=>if CG=sz then some es else none
 |_=>none
def PV.isRow:PV→Bool
 |.fQ _ _=>true
 |_=>false
def PV.lZ:PV→PV
 |.fQ sz es=>.rs sz es
 |p=>p
def PV.strip:PV→PV
 |.agg cs=>.agg (cs.map PV.lZ)
 |p=>p.lZ
def ba(es:List PV)(i:Int):Option PV:=if 0≤i then es[i.toNat]? else none
def NO(s:Bytes)(i:Int):Option UInt8:=if 0≤i then s[i.toNat]? else none
inductive Kd where
 |int (q:IntKind)
 |bool
 |str
def qR:Kd→PV→Bool
 |.int q,.int q' _=>decide (q'=q)
 |.bool,.bool _=>true
 |.str,.str _=>true
 |_,_=>false
def gU:List Kd→List PV→Bool
 |[],[]=>true
 |k::ks,p::ps=>qR k p&&gU ks ps
 |_,_=>false
def PV.isAgg:PV→Bool
 |.agg _=>true
 |_=>false
def PV.plain:PV→Bool
 |.bl _=>false
 |.bad=>false
 |_=>true
def peq:PV→PV→Bool
 |.int _ a,.int _ b=>a==b
 |.bool a,.bool b=>a==b
 |.str a,.str b=>a==b
 |_,_=>false
def cC:List PV→List PV→Bool
 |[],[]=>true
 |a::as,b::bs=>peq a b&&cC as bs
 |_,_=>false
def dN(k:PV)(z:PV):List (PV×PV)→PV
 |[]=>z
 |(a,v)::r=>if cC k.cells a.cells then v else dN k z r
def sS(k:PV):List (PV×PV)→Bool
 |[]=>false
 |(a,_)::r=>cC k.cells a.cells||sS k r
def eR(k v:PV):List (PV×PV)→List (PV×PV)
 |[]=>[(k,v)]
 |(a,u)::r=>if cC k.cells a.cells then(k,v)::r else(a,u)::eR k v r
def pL(k:PV):List (PV×PV)→List (PV×PV)
 |[]=>[]
 |(a,u)::r=>if cC k.cells a.cells then(a,.bad)::r else(a,u)::pL k r
def F5(sz:Nat)(k:PV):List (PV×PV)→Option (List PV)
 |[]=>some []
 |(a,u)::r=>if cC k.cells a.cells then aY sz u else F5 sz k r
section
variable (P:Program)
def aT(t:TypeId):Nat:=((P.info? t).map (·.size)).getD 0
def CM(t:TypeId):Nat:=((P.info? t).map (·.bytes)).getD 0
def aF(t:TypeId):Bool:=match P.underlying t with|some (.struct _)|some (.array _ _)=>true|_=>false
def oa(xQ:TypeId→Option (List Kd)):List Field→Nat→Option (List Kd)
 |[],_=>some []
 |f::r,off=>if f.offset=off∧f.name≠ "_" then(xQ f.type).bind fun a=>(oa xQ r (off+a.length)).bind fun b=>some (a++b)else none
def ob(a:List Kd):Nat→List Kd
 |0=>[]
 |n+1=>a++ob a n
def xQ:Nat→TypeId→Option (List Kd)
 |0,_=>none
 |d+1,t=>match P.underlying t with
  |some (.int q)=>some [.int q]
  |some .bool=>some [.bool]
  |some .string=>some [.str]
  |some (.struct fs)=>if P.stoodInHeld t then none else(oa (xQ d) fs.toList 0).bind fun a=>if a.length=aT P t then some a else none
  |some (.array n e)=>(xQ d e).bind fun a=>if a.length=aT P e∧n*a.length=aT P t then some (ob a n)else none
  |_=>none
def sG(kt:TypeId)(ks:List Kd)(k:PV):Bool:=gU ks k.cells&&(aF P kt==k.isAgg)
def pM(t:TypeId):Option (List Kd):=if P.eqGuardType P.depth t then none else xQ P 8 t
end
def xU:Value→V
 |.int k n=>if(Lit.int k n).wf then .pv (.int k n)else .top
 |.bool b=>.pv (.bool b)
 |.string s=>if s.data.toList.length≤maxLen then .pv (.str s.data.toList)else .top
 |.pointer none=>.pv .nD
 |.slice none 0 0=>.bk
 |.map none=>.pv .sR
 |.nilFunc=>.pv .xT
 |.nilIface=>.pv (.Tm false)
 |_=>.top
def C6:Value→V
 |.agg cs=>if cs.toList.all (fun c=>match c with|.agg _=>false|.tuple _=>false|_=>true)then .agg (cs.toList.map xU)else .top
 |v=>xU v
def zeroV(P:Program)(t:TypeId):Option V:=((P.info? t).bind (·.zero)).map C6
def toCells(n:Nat):V→Option (List V)
 |.pv (.agg cs)=>if cs.length=n then some (cs.map .pv)else none
 |.agg cs=>if cs.length=n then some cs else none
 |.top|.bl _|.pv (.bl _)|.pv .bad=>none
 |v=>if n=1 then some [v]else none
def NP:PV→Option PV
 |.fQ s rs=>some (.rs s rs)
 |_=>none
def oc(f:V→Option PV):List V→Option (List PV)
 |[]=>some []
 |v::r=>(f v).bind fun p=>(oc f r).bind fun ps=>some (p::ps)
def jq(m:Mem):Nat→V→Option PV
 |0,_=>none
 |_+1,.pv p=>some p
 |_+1,.bk=>some (.rs 0 [])
 |d+1,.agg cs=>(oc (jq m d) cs).bind fun ps=>some (.agg ps)
 |d+1,.bl cs=>(oc (jq m d) cs).bind fun ps=>some (.bl ps)
 |d+1,.fn g cs=>(oc (jq m d) cs).bind fun ps=>some (.fn g ps)
 |_+1,.os id=>match m id with
  |some (.arr s _ es)=>some (.rs s es)
  |some (.nP s _ es)=>some (.rs s es)
  |some (.nest s _ es)=>some (.rs s (es.map PV.strip))
  |_=>none
 |_+1,.tc id i off=>match m id with
  |some (.nest _ _ es)=>(es[i]?).bind fun e=>NP (cell e off)
  |_=>none
 |_+1,.fj id lo len=>match m id with
  |some (.arr s _ es)=>some (.rs s ((es.drop lo).take len))
  |some (.nP s _ es)=>some (.rs s ((es.drop lo).take len))
  |_=>none
 |d+1,.op id off=>match m id with
  |some (.box cs)=>(oc (jq m d) (cs.drop off)).bind fun ps=>some (.rp ps)
  |_=>none
 |_+1,.oe id i off=>match m id with
  |some (.arr s _ es)=>(es[i]?).bind fun e=>some (.rp ((aL s e).drop off))
  |some (.nP s _ es)=>(es[i]?).bind fun e=>some (.rp ((aL s e).drop off))
  |_=>none
 |_+1,.om id=>match m id with
  |some (.map kt es)=>some (.rm kt (es.map (·.1)) (es.map (·.2)))
  |some (.eX kt _ es)=>some (.rm kt (es.map (·.1)) (es.map fun x=>x.2.lZ))
  |_=>none
 |_+1,_=>none
def eH:Nat:=6
def gD(f:V→List Nat):List V→List Nat
 |[]=>[]
 |v::r=>f v++gD f r
def c7(m:Mem):Nat→V→List Nat
 |0,_=>[]
 |d+1,.agg cs=>gD (c7 m d) cs
 |d+1,.bl cs=>gD (c7 m d) cs
 |d+1,.fn _ cs=>gD (c7 m d) cs
 |_+1,.os id=>[id]
 |_+1,.fj id _ _=>[id]
 |_+1,.oe id _ _=>[id]
 |_+1,.om id=>[id]
 |_+1,.tc id _ _=>[id]
 |d+1,.op id off=>id::(match m id with|some (.box cs)=>gD (c7 m d) (cs.drop off)|_=>[])
 |_+1,_=>[]
def AP(m:Mem):V→Option (PV×Mem)
 |.pv p=>some (p,m)
 |.bk=>some (.rs 0 [],m)
 |.os id=>match m id with
  |some (.arr s et es)=>some (.rs s es,ao m id (.nP s et es))
  |some (.nP s _ es)=>some (.rs s es,m)
  |some (.nest s et es)=>some (.rs s (es.map PV.strip),ao m id (.nP s et (es.map PV.strip)))
  |_=>none
 |_=>none
def kC:Mem→List V→Option (List PV×Mem)
 |m,[]=>some ([],m)
 |m,v::r=>match AP m v with
  |some (p,m)=>match kC m r with
   |some (ps,m)=>some (p::ps,m)
   |none=>none
  |none=>none
def rP(m:Mem):V→Option (PV×Mem)
 |.agg cs=>match kC m cs with
  |some (ps,m)=>some (.agg ps,m)
  |none=>none
 |v=>AP m v
def jb(m:Mem)(n:Nat)(agg:Bool)(v:V):Option (PV×Mem):=
 match toCells n v with
 |some cs=>match kC m cs with
  |some (ps,m)=>if agg then some (.agg ps,m)else match ps with|[p]=>some (p,m)|_=>none
  |none=>none
 |none=>none
mutual
def V.has(id:Nat):V→Bool
 |.agg cs=>cr id cs
 |.bl cs=>cr id cs
 |.fn _ cs=>cr id cs
 |.os j=>Nat.beq j id
 |.fj j _ _=>Nat.beq j id
 |.oe j _ _=>Nat.beq j id
 |.om j=>Nat.beq j id
 |.tc j _ _=>Nat.beq j id
 |.wL j _ _ _ _ _=>Nat.beq j id
 |.op j _=>Nat.beq j id
 |.yl j=>Nat.beq j id
 |.it j=>Nat.beq j id
 |_=>false
def cr(id:Nat):List V→Bool
 |[]=>false
 |v::r=>v.has id||cr id r
end
mutual
def V.within(M:List Nat):V→Bool
 |.agg cs=>jc M cs
 |.bl cs=>jc M cs
 |.fn _ cs=>jc M cs
 |.os j=>M.elem j
 |.fj j _ _=>M.elem j
 |.oe j _ _=>M.elem j
 |.om j=>M.elem j
 |.tc j _ _=>M.elem j
 |.wL j _ _ _ _ _=>M.elem j
 |.op j _=>M.elem j
 |.yl j=>M.elem j
 |.it j=>M.elem j
 |_=>true
def jc(M:List Nat):List V→Bool
 |[]=>true
 |v::r=>v.within M&&jc M r
end
mutual
def V.sT(id:Nat):V→Bool
 |.agg cs=>wM id cs
 |.bl cs=>wM id cs
 |.fn _ cs=>wM id cs
 |.tc j _ _=>Nat.beq j id
 |.wL j _ _ _ _ _=>Nat.beq j id
 |_=>false
def wM(id:Nat):List V→Bool
 |[]=>false
 |v::r=>v.sT id||wM id r
end
def pN(id:Nat)(v:V):V:=bif v.has id then .top else v
def eS(id:Nat)(f:Fr):Fr:=fun t=>pN id (f t)
def fJ(id:Nat):bL→bL
 |.box cs=>.box (cs.map (pN id))
 |b=>b
def bE(id:Nat)(m:Mem):Mem:=fun j=>match m j with|some b=>some (fJ id b)|none=>none
def l0(id:Nat)(v:V):V:=bif v.sT id then .top else v
def gm(id:Nat)(f:Fr):Fr:=fun t=>l0 id (f t)
def dR(id:Nat):bL→bL
 |.box cs=>.box (cs.map (l0 id))
 |b=>b
def eV(id:Nat)(m:Mem):Mem:=fun j=>match m j with|some b=>some (dR id b)|none=>none
abbrev Kl:=List (Bool×Nat)
def kf:Kl→Fr→Fr
 |[],f=>f
 |(true,id)::r,f=>kf r (eS id f)
 |(false,id)::r,f=>kf r (gm id f)
def km:Kl→Mem→Mem
 |[],m=>m
 |(true,id)::r,m=>km r (bh (bE id m) id)
 |(false,id)::r,m=>km r (eV id m)
def qO:List (Nat×bL)→Mem→Mem
 |[],m=>m
 |(id,b)::r,m=>qO r (ao m id b)
def bL.names:bL→Nat→Bool
 |.box cs,id=>cr id cs
 |_,_=>false
def bL.within(M:List Nat):bL→Bool
 |.box cs=>jc M cs
 |_=>true
end Go.Ab
