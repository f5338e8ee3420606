import GoSem.Step
import GoSem.ClaimData
import Derived.Calls
set_option linter.unusedVariables false
namespace Go.Ab
abbrev Bytes:=List UInt8
inductive PV where
 |int (k:IntKind) (n:Int)
 |bool (b:Bool)
 |str (s:Bytes)
 |agg (cs:List PV)
 |bt (vs:List PV)
 |pF
 |rp (cs:List PV)
 |rs (sz:Nat) (es:List PV)
 |pG (sz:Nat) (es:List PV)
 |ve
 |rm (kt:TypeId) (ks vs:List PV)
 |Ao
 |fn (f:FuncId) (caps:List PV)
 |WC (b:Bool)
 |bad
 deriving Inhabited
def PV.cells:PV→List PV
 |.agg cs=>cs
 |v=>[v]
def cell(p:PV)(j:Nat):PV:=p.cells.getD j .bad
def dX(p:PV):(j n:Nat)→List PV
 |_,0=>[]
 |j,n+1=>cell p j::dX p (j+1) n
def aC(sz:Nat)(p:PV):List PV:=dX p 0 sz
inductive Jmp where
 |ret
 |exit (id:Nat)
inductive LG where
 |ready
 |busy
 |done (j:Jmp)
inductive V where
 |pv (p:PV)
 |hZ
 |op (id off:Nat)
 |oe (id i off:Nat)
 |os (id:Nat)
 |fH (id lo len:Nat)
 |om (id:Nat)
 |vp (id i off:Nat)
 |y7 (id i off s j off2:Nat)
 |fn (f:FuncId) (caps:List V)
 |yl (id:Nat)
 |it (id:Nat)
 |agg (cs:List V)
 |bt (vs:List V)
 |top
 deriving Inhabited
inductive bE where
 |box (cs:List V)
 |arr (sz:Nat) (et:TypeId) (es:List PV)
 |pR (sz:Nat) (et:TypeId) (es:List PV)
 |map (kt:TypeId) (es:List (PV×PV))
 |nest (sz:Nat) (et:TypeId) (es:List PV)
 |fe (kt e:TypeId) (es:List (PV×PV))
 |loop (st:LG)
 |iter (t:TypeId) (es:List (PV×PV)) (cur:Option (PV×PV))
 deriving Inhabited
abbrev Fr:=Nat→V
abbrev Mem:=Nat→Option bE
def fI(f:Fr)(d:Nat)(v:V):Fr:=fun t=>bif Nat.beq t d then v else f t
def jc(f:Fr)(d:Option Nat)(v:V):Fr:=match d with|some d=>fI f d v|none=>f
def ak(m:Mem)(d:Nat)(b:bE):Mem:=fun t=>bif Nat.beq t d then some b else m t
def bh(m:Mem)(d:Nat):Mem:=fun t=>bif Nat.beq t d then none else m t
def LV:List (Nat×V)→Fr
 |[]=>fun _=>.top
 |(d,v)::r=>fI (LV r) d v
def CX:List (Nat×Option bE)→Mem
 |[]=>fun _=>none
 |(d,b)::r=>fun t=>bif Nat.beq t d then b else CX r t
abbrev bk:=List (Bool×Nat)
def asInt(q:IntKind):PV→Option Int
 |.int q' n=>if q'=q then some n else none
 |_=>none
def asBool:PV→Option Bool
 |.bool b=>some b
 |_=>none
def cR:PV→Option Bytes
 |.str s=>some s
 |_=>none
def PN:PV→Option Bool
 |.WC b=>some b
 |_=>none
def aa(sz:Nat):PV→Option (List PV)
 |.rs Fb es=>if Fb=sz then some es else match es with|[]=>some []|_=>none
 |_=>none
def cP(n:Nat):PV→Option (List PV)
 |.bt vs=>if vs.length=n then some vs else none
 |_=>none
def asAgg(n:Nat):PV→Option Unit
 |.agg cs=>if cs.length=n then some ()else none
 |_=>none
def eT(sz:Nat):PV→Option (List PV)
 |.pG Fb es=>if Fb=sz then some es else none
 |_=>none
def PV.isRow:PV→Bool
 |.pG _ _=>true
 |_=>false
def PV.np:PV→PV
 |.pG sz es=>.rs sz es
 |p=>p
def PV.strip:PV→PV
 |.agg cs=>.agg (cs.map PV.np)
 |p=>p.np
def aO(es:List PV)(i:Int):Option PV:=if 0≤i then es[i.toNat]? else none
def Rm(s:Bytes)(i:Int):Option UInt8:=if 0≤i then s[i.toNat]? else none
def eK(s:Nat):List PV→List PV
 |[]=>[]
 |e::es=>aC s e++eK s es
def fl(s n:Nat)(p:PV):List PV:=(List.range n).map fun i=>.agg (dX p (i*s) s)
def Cg:Nat:=1000
inductive Kd where
 |int (q:IntKind)
 |bool
 |str
def sR:Kd→PV→Bool
 |.int q,.int q' _=>decide (q'=q)
 |.bool,.bool _=>true
 |.str,.str _=>true
 |_,_=>false
def lD:List Kd→List PV→Bool
 |[],[]=>true
 |k::ks,p::ps=>sR k p&&lD ks ps
 |_,_=>false
def PV.isAgg:PV→Bool
 |.agg _=>true
 |_=>false
def PV.plain:PV→Bool
 |.bt _=>false
 |.bad=>false
 |_=>true
def peq:PV→PV→Bool
 |.int _ a,.int _ b=>a==b
 |.bool a,.bool b=>a==b
 |.str a,.str b=>a==b
 |_,_=>false
def dK:List PV→List PV→Bool
 |[],[]=>true
 |a::as,b::bs=>peq a b&&dK as bs
 |_,_=>false
def dH(k:PV)(z:PV):List (PV×PV)→PV
 |[]=>z
 |(a,v)::r=>if dK k.cells a.cells then v else dH k z r
def vf(k:PV):List (PV×PV)→Bool
 |[]=>false
 |(a,_)::r=>dK k.cells a.cells||vf k r
def eS(k v:PV):List (PV×PV)→List (PV×PV)
 |[]=>[(k,v)]
 |(a,u)::r=>if dK k.cells a.cells then(k,v)::r else(a,u)::eS k v r
def rQ(k:PV):List (PV×PV)→List (PV×PV)
 |[]=>[]
 |(a,u)::r=>if dK k.cells a.cells then(a,.bad)::r else(a,u)::rQ k r
def I5(sz:Nat)(k:PV):List (PV×PV)→Option (List PV)
 |[]=>some []
 |(a,u)::r=>if dK k.cells a.cells then eT sz u else I5 sz k r
section
variable (P:Program)
def aP(t:TypeId):Nat:=((P.info? t).map (·.size)).getD 0
def Fi(t:TypeId):Nat:=((P.info? t).map (·.bytes)).getD 0
def ao(t:TypeId):Bool:=match P.underlying t with|some (.struct _)|some (.array _ _)=>true|_=>false
def qf(Aj:TypeId→Option (List Kd)):List Field→Nat→Option (List Kd)
 |[],_=>some []
 |f::r,off=>if f.offset=off∧f.name≠ "_" then(Aj f.type).bind fun a=>(qf Aj r (off+a.length)).bind fun b=>some (a++b)else none
def qg(a:List Kd):Nat→List Kd
 |0=>[]
 |n+1=>a++qg a n
def Aj:Nat→TypeId→Option (List Kd)
 |0,_=>none
 |d+1,t=>match P.underlying t with
  |some (.int q)=>some [.int q]
  |some .bool=>some [.bool]
  |some .string=>some [.str]
  |some (.struct fs)=>if P.stoodInHeld t then none else(qf (Aj d) fs.toList 0).bind fun a=>if a.length=aP P t then some a else none
  |some (.array n e)=>(Aj d e).bind fun a=>if a.length=aP P e∧n*a.length=aP P t then some (qg a n)else none
  |_=>none
def uS(kt:TypeId)(ks:List Kd)(k:PV):Bool:=lD ks k.cells&&(ao P kt==k.isAgg)
def rR(t:TypeId):Option (List Kd):=if P.eqGuardType P.depth t then none else Aj P 8 t
end
def Ap:Value→V
 |.int k n=>if(Lit.int k n).wf then .pv (.int k n)else .top
 |.bool b=>.pv (.bool b)
 |.string s=>if s.data.toList.length≤maxLen then .pv (.str s.data.toList)else .top
 |.pointer none=>.pv .pF
 |.slice none 0 0=>.hZ
 |.map none=>.pv .ve
 |.nilFunc=>.pv .Ao
 |.nilIface=>.pv (.WC false)
 |_=>.top
def FJ:Value→V
 |.agg cs=>if cs.toList.all (fun c=>match c with|.agg _=>false|.tuple _=>false|_=>true)then .agg (cs.toList.map Ap)else .top
 |v=>Ap v
def zeroV(P:Program)(t:TypeId):Option V:=((P.info? t).bind (·.zero)).map FJ
def toCells(n:Nat):V→Option (List V)
 |.pv (.agg cs)=>if cs.length=n then some (cs.map .pv)else none
 |.agg cs=>if cs.length=n then some cs else none
 |.top|.bt _|.pv (.bt _)|.pv .bad=>none
 |v=>if n=1 then some [v]else none
def abv:PV→Option PV
 |.pG s rs=>some (.rs s rs)
 |_=>none
def pH(f:V→Option PV):List V→Option (List PV)
 |[]=>some []
 |v::r=>(f v).bind fun p=>(pH f r).bind fun ps=>some (p::ps)
def kD(m:Mem):Nat→V→Option PV
 |0,_=>none
 |_+1,.pv p=>some p
 |_+1,.hZ=>some (.rs 0 [])
 |d+1,.agg cs=>(pH (kD m d) cs).bind fun ps=>some (.agg ps)
 |d+1,.bt cs=>(pH (kD m d) cs).bind fun ps=>some (.bt ps)
 |d+1,.fn g cs=>(pH (kD m d) cs).bind fun ps=>some (.fn g ps)
 |_+1,.os id=>match m id with
  |some (.arr s _ es)=>some (.rs s es)
  |some (.pR s _ es)=>some (.rs s es)
  |some (.nest s _ es)=>some (.rs s (es.map PV.strip))
  |_=>none
 |_+1,.vp id i off=>match m id with
  |some (.nest _ _ es)=>(es[i]?).bind fun e=>abv (cell e off)
  |_=>none
 |_+1,.fH id lo len=>match m id with
  |some (.arr s _ es)=>some (.rs s ((es.drop lo).take len))
  |some (.pR s _ es)=>some (.rs s ((es.drop lo).take len))
  |_=>none
 |d+1,.op id off=>match m id with
  |some (.box cs)=>(pH (kD m d) (cs.drop off)).bind fun ps=>some (.rp ps)
  |_=>none
 |_+1,.oe id i off=>match m id with
  |some (.arr s _ es)=>(es[i]?).bind fun e=>some (.rp ((aC s e).drop off))
  |some (.pR s _ es)=>(es[i]?).bind fun e=>some (.rp ((aC s e).drop off))
  |_=>none
 |_+1,.om id=>match m id with
  |some (.map kt es)=>some (.rm kt (es.map (·.1)) (es.map (·.2)))
  |some (.fe kt _ es)=>some (.rm kt (es.map (·.1)) (es.map fun x=>x.2.np))
  |_=>none
 |_+1,_=>none
def eL:Nat:=6
def iH(f:V→List Nat):List V→List Nat
 |[]=>[]
 |v::r=>f v++iH f r
def cS(m:Mem):Nat→V→List Nat
 |0,_=>[]
 |d+1,.agg cs=>iH (cS m d) cs
 |d+1,.bt cs=>iH (cS m d) cs
 |d+1,.fn _ cs=>iH (cS m d) cs
 |_+1,.os id=>[id]
 |_+1,.fH id _ _=>[id]
 |_+1,.oe id _ _=>[id]
 |_+1,.om id=>[id]
 |_+1,.vp id _ _=>[id]
 |d+1,.op id off=>id::(match m id with|some (.box cs)=>iH (cS m d) (cs.drop off)|_=>[])
 |_+1,_=>[]
def CY(m:Mem):V→Option (PV×Mem)
 |.pv p=>some (p,m)
 |.hZ=>some (.rs 0 [],m)
 |.os id=>match m id with
  |some (.arr s et es)=>some (.rs s es,ak m id (.pR s et es))
  |some (.pR s _ es)=>some (.rs s es,m)
  |some (.nest s et es)=>some (.rs s (es.map PV.strip),ak m id (.pR s et (es.map PV.strip)))
  |_=>none
 |_=>none
def lS:Mem→List V→Option (List PV×Mem)
 |m,[]=>some ([],m)
 |m,v::r=>match CY m v with
  |some (p,m)=>match lS m r with
   |some (ps,m)=>some (p::ps,m)
   |none=>none
  |none=>none
def tQ(m:Mem):V→Option (PV×Mem)
 |.agg cs=>match lS m cs with
  |some (ps,m)=>some (.agg ps,m)
  |none=>none
 |v=>CY m v
def kq(m:Mem)(n:Nat)(agg:Bool)(v:V):Option (PV×Mem):=
 match toCells n v with
 |some cs=>match lS m cs with
  |some (ps,m)=>if agg then some (.agg ps,m)else match ps with|[p]=>some (p,m)|_=>none
  |none=>none
 |none=>none
mutual
def V.has(id:Nat):V→Bool
 |.agg cs=>cm id cs
 |.bt cs=>cm id cs
 |.fn _ cs=>cm id cs
 |.os j=>Nat.beq j id
 |.fH j _ _=>Nat.beq j id
 |.oe j _ _=>Nat.beq j id
 |.om j=>Nat.beq j id
 |.vp j _ _=>Nat.beq j id
 |.y7 j _ _ _ _ _=>Nat.beq j id
 |.op j _=>Nat.beq j id
 |.yl j=>Nat.beq j id
 |.it j=>Nat.beq j id
 |_=>false
def cm(id:Nat):List V→Bool
 |[]=>false
 |v::r=>v.has id||cm id r
end
mutual
def V.within(M:List Nat):V→Bool
 |.agg cs=>kr M cs
 |.bt cs=>kr M cs
 |.fn _ cs=>kr M cs
 |.os j=>M.elem j
 |.fH j _ _=>M.elem j
 |.oe j _ _=>M.elem j
 |.om j=>M.elem j
 |.vp j _ _=>M.elem j
 |.y7 j _ _ _ _ _=>M.elem j
 |.op j _=>M.elem j
 |.yl j=>M.elem j
 |.it j=>M.elem j
 |_=>true
def kr(M:List Nat):List V→Bool
 |[]=>true
 |v::r=>v.within M&&kr M r
end
mutual
def V.vg(id:Nat):V→Bool
 |.agg cs=>y8 id cs
 |.bt cs=>y8 id cs
 |.fn _ cs=>y8 id cs
 |.vp j _ _=>Nat.beq j id
 |.y7 j _ _ _ _ _=>Nat.beq j id
 |_=>false
def y8(id:Nat):List V→Bool
 |[]=>false
 |v::r=>v.vg id||y8 id r
end
def rS(id:Nat)(v:V):V:=bif v.has id then .top else v
def eU(id:Nat)(f:Fr):Fr:=fun t=>rS id (f t)
def gq(id:Nat):bE→bE
 |.box cs=>.box (cs.map (rS id))
 |b=>b
def bx(id:Nat)(m:Mem):Mem:=fun j=>match m j with|some b=>some (gq id b)|none=>none
def nq(id:Nat)(v:V):V:=bif v.vg id then .top else v
def ic(id:Nat)(f:Fr):Fr:=fun t=>nq id (f t)
def dO(id:Nat):bE→bE
 |.box cs=>.box (cs.map (nq id))
 |b=>b
def e8(id:Nat)(m:Mem):Mem:=fun j=>match m j with|some b=>some (dO id b)|none=>none
abbrev Kl:=List (Bool×Nat)
def kf:Kl→Fr→Fr
 |[],f=>f
 |(true,id)::r,f=>kf r (eU id f)
 |(false,id)::r,f=>kf r (ic id f)
def km:Kl→Mem→Mem
 |[],m=>m
 |(true,id)::r,m=>km r (bh (bx id m) id)
 |(false,id)::r,m=>km r (e8 id m)
def sN:List (Nat×bE)→Mem→Mem
 |[],m=>m
 |(id,b)::r,m=>sN r (ak m id b)
def bE.names:bE→Nat→Bool
 |.box cs,id=>cm id cs
 |_,_=>false
def bE.within(M:List Nat):bE→Bool
 |.box cs=>kr M cs
 |_=>true
end Go.Ab
