import GoSem.Step
import GoSem.ClaimData
import Derived.Calls
set_option linter.unusedVariables false
namespace Go.Ab
abbrev Bytes:=List UInt8
inductive PV where
 |int (k:IntKind) (n:Int)
 |bool (b:Bool)
 |str (s:Bytes)
 |agg (cs:List PV)
 |aZ (vs:List PV)
 |nQ
 |rp (cs:List PV)
 |rs (sz:Nat) (es:List PV)
 |cK (sz:Nat) (es:List PV)
 |ti
 |rm (kt:TypeId) (ks vs:List PV)
 |yD
 |fn (f:FuncId) (mj:List PV)
 |U2 (b:Bool)
 |bad
 deriving Inhabited
def PV.cells:PV→List PV
 |.agg cs=>cs
 |v=>[v]
def cell(p:PV)(j:Nat):PV:=p.cells.getD j .bad
def kN(p:PV):(j n:Nat)→List PV
 |_,0=>[]
 |j,n+1=>cell p j::kN p (j+1) n
def aK(sz:Nat)(p:PV):List PV:=kN p 0 sz
inductive Jmp where
 |ret
 |exit (id:Nat)
inductive Jx where
 |ready
 |busy
 |done (j:Jmp)
inductive V where
 |pv (p:PV)
 |bf
 |op (id off:Nat)
 |oe (id i off:Nat)
 |os (id:Nat)
 |fl (id lo len:Nat)
 |om (id:Nat)
 |tA (id i off:Nat)
 |xg (id i off s j off2:Nat)
 |fn (f:FuncId) (mj:List V)
 |yl (id:Nat)
 |it (id:Nat)
 |agg (cs:List V)
 |aZ (vs:List V)
 |top
 deriving Inhabited
inductive bL where
 |box (cs:List V)
 |arr (sz:Nat) (et:TypeId) (es:List PV)
 |oA (sz:Nat) (et:TypeId) (es:List PV)
 |map (kt:TypeId) (es:List (PV×PV))
 |nest (sz:Nat) (et:TypeId) (es:List PV)
 |e8 (kt e:TypeId) (es:List (PV×PV))
 |loop (st:Jx)
 |iter (t:TypeId) (es:List (PV×PV)) (cur:Option (PV×PV))
 deriving Inhabited
abbrev Fr:=Nat→V
abbrev Mem:=Nat→Option bL
def fm(f:Fr)(d:Nat)(v:V):Fr:=fun t=>bif Nat.beq t d then v else f t
def gW(f:Fr)(d:Option Nat)(v:V):Fr:=match d with|some d=>fm f d v|none=>f
def av(m:Mem)(d:Nat)(b:bL):Mem:=fun t=>bif Nat.beq t d then some b else m t
def bg(m:Mem)(d:Nat):Mem:=fun t=>bif Nat.beq t d then none else m t
def JH:List (Nat×V)→Fr
 |[]=>fun _=>.top
 |(d,v)::r=>fm (JH r) d v
def Bl:List (Nat×Option bL)→Mem
 |[]=>fun _=>none
 |(d,b)::r=>fun t=>bif Nat.beq t d then b else Bl r t
abbrev br:=List (Bool×Nat)
def asInt(q:IntKind):PV→Option Int
 |.int q' n=>if q'=q then some n else none
 |_=>none
def asBool:PV→Option Bool
 |.bool b=>some b
 |_=>none
def bh:PV→Option Bytes
 |.str s=>some s
 |_=>none
def NN:PV→Option Bool
 |.U2 b=>some b
 |_=>none
def ab(sz:Nat):PV→Option (List PV)
 |.rs Dp es=>if Dp=sz then some es else match es with|[]=>some []|_=>none
 |_=>none
def bA(n:Nat):PV→Option (List PV)
 |.aZ vs=>if vs.length=n then some vs else none
 |_=>none
def asAgg(n:Nat):PV→Option Unit
 |.agg cs=>if cs.length=n then some ()else none
 |_=>none
def aO(sz:Nat):PV→Option (List PV)
 |.cK Dp es=>if Dp=sz then some es else none
 |_=>none
def PV.isRow:PV→Bool
 |.cK _ _=>true
 |_=>false
def PV.ml:PV→PV
 |.cK sz es=>.rs sz es
 |p=>p
def PV.strip:PV→PV
 |.agg cs=>.agg (cs.map PV.ml)
 |p=>p.ml
def aQ(es:List PV)(i:Int):Option PV:=if 0≤i then es[i.toNat]? else none
def JI(s:Bytes)(i:Int):Option UInt8:=if 0≤i then s[i.toNat]? else none
inductive Kd where
 |int (q:IntKind)
 |bool
 |str
def rB:Kd→PV→Bool
 |.int q,.int q' _=>decide (q'=q)
 |.bool,.bool _=>true
 |.str,.str _=>true
 |_,_=>false
def gX:List Kd→List PV→Bool
 |[],[]=>true
 |k::ks,p::ps=>rB k p&&gX ks ps
 |_,_=>false
def PV.isAgg:PV→Bool
 |.agg _=>true
 |_=>false
def PV.plain:PV→Bool
 |.aZ _=>false
 |.bad=>false
 |_=>true
def peq:PV→PV→Bool
 |.int _ a,.int _ b=>a==b
 |.bool a,.bool b=>a==b
 |.str a,.str b=>a==b
 |_,_=>false
def cA:List PV→List PV→Bool
 |[],[]=>true
 |a::as,b::bs=>peq a b&&cA as bs
 |_,_=>false
def dI(k:PV)(z:PV):List (PV×PV)→PV
 |[]=>z
 |(a,v)::r=>if cA k.cells a.cells then v else dI k z r
def tl(k:PV):List (PV×PV)→Bool
 |[]=>false
 |(a,_)::r=>cA k.cells a.cells||tl k r
def eN(k v:PV):List (PV×PV)→List (PV×PV)
 |[]=>[(k,v)]
 |(a,u)::r=>if cA k.cells a.cells then(k,v)::r else(a,u)::eN k v r
def qq(k:PV):List (PV×PV)→List (PV×PV)
 |[]=>[]
 |(a,u)::r=>if cA k.cells a.cells then(a,.bad)::r else(a,u)::qq k r
def GW(sz:Nat)(k:PV):List (PV×PV)→Option (List PV)
 |[]=>some []
 |(a,u)::r=>if cA k.cells a.cells then aO sz u else GW sz k r
section
variable (P:Program)
def aU(t:TypeId):Nat:=((P.info? t).map (·.size)).getD 0
def Dy(t:TypeId):Nat:=((P.info? t).map (·.bytes)).getD 0
def aF(t:TypeId):Bool:=match P.underlying t with|some (.struct _)|some (.array _ _)=>true|_=>false
def oL(yA:TypeId→Option (List Kd)):List Field→Nat→Option (List Kd)
 |[],_=>some []
 |f::r,off=>if f.offset=off∧f.name≠ "_" then(yA f.type).bind fun a=>(oL yA r (off+a.length)).bind fun b=>some (a++b)else none
def oM(a:List Kd):Nat→List Kd
 |0=>[]
 |n+1=>a++oM a n
def yA:Nat→TypeId→Option (List Kd)
 |0,_=>none
 |d+1,t=>match P.underlying t with
  |some (.int q)=>some [.int q]
  |some .bool=>some [.bool]
  |some .string=>some [.str]
  |some (.struct fs)=>if P.stoodInHeld t then none else(oL (yA d) fs.toList 0).bind fun a=>if a.length=aU P t then some a else none
  |some (.array n e)=>(yA d e).bind fun a=>if a.length=aU P e∧n*a.length=aU P t then some (oM a n)else none
  |_=>none
def sY(kt:TypeId)(ks:List Kd)(k:PV):Bool:=gX ks k.cells&&(aF P kt==k.isAgg)
def qt(t:TypeId):Option (List Kd):=if P.eqGuardType P.depth t then none else yA P 8 t
end
def yE:Value→V
 |.int k n=>if(Lit.int k n).wf then .pv (.int k n)else .top
 |.bool b=>.pv (.bool b)
 |.string s=>if s.data.toList.length≤maxLen then .pv (.str s.data.toList)else .top
 |.pointer none=>.pv .nQ
 |.slice none 0 0=>.bf
 |.map none=>.pv .ti
 |.nilFunc=>.pv .yD
 |.nilIface=>.pv (.U2 false)
 |_=>.top
def DU:Value→V
 |.agg cs=>if cs.toList.all (fun c=>match c with|.agg _=>false|.tuple _=>false|_=>true)then .agg (cs.toList.map yE)else .top
 |v=>yE v
def zeroV(P:Program)(t:TypeId):Option V:=((P.info? t).bind (·.zero)).map DU
def toCells(n:Nat):V→Option (List V)
 |.pv (.agg cs)=>if cs.length=n then some (cs.map .pv)else none
 |.agg cs=>if cs.length=n then some cs else none
 |.top|.aZ _|.pv (.aZ _)|.pv .bad=>none
 |v=>if n=1 then some [v]else none
def Pj:PV→Option PV
 |.cK s rs=>some (.rs s rs)
 |_=>none
def oN(f:V→Option PV):List V→Option (List PV)
 |[]=>some []
 |v::r=>(f v).bind fun p=>(oN f r).bind fun ps=>some (p::ps)
def jw(m:Mem):Nat→V→Option PV
 |0,_=>none
 |_+1,.pv p=>some p
 |_+1,.bf=>some (.rs 0 [])
 |d+1,.agg cs=>(oN (jw m d) cs).bind fun ps=>some (.agg ps)
 |d+1,.aZ cs=>(oN (jw m d) cs).bind fun ps=>some (.aZ ps)
 |d+1,.fn g cs=>(oN (jw m d) cs).bind fun ps=>some (.fn g ps)
 |_+1,.os id=>match m id with
  |some (.arr s _ es)=>some (.rs s es)
  |some (.oA s _ es)=>some (.rs s es)
  |some (.nest s _ es)=>some (.rs s (es.map PV.strip))
  |_=>none
 |_+1,.tA id i off=>match m id with
  |some (.nest _ _ es)=>(es[i]?).bind fun e=>Pj (cell e off)
  |_=>none
 |_+1,.fl id lo len=>match m id with
  |some (.arr s _ es)=>some (.rs s ((es.drop lo).take len))
  |some (.oA s _ es)=>some (.rs s ((es.drop lo).take len))
  |_=>none
 |d+1,.op id off=>match m id with
  |some (.box cs)=>(oN (jw m d) (cs.drop off)).bind fun ps=>some (.rp ps)
  |_=>none
 |_+1,.oe id i off=>match m id with
  |some (.arr s _ es)=>(es[i]?).bind fun e=>some (.rp ((aK s e).drop off))
  |some (.oA s _ es)=>(es[i]?).bind fun e=>some (.rp ((aK s e).drop off))
  |_=>none
 |_+1,.om id=>match m id with
  |some (.map kt es)=>some (.rm kt (es.map (·.1)) (es.map (·.2)))
  |some (.e8 kt _ es)=>some (.rm kt (es.map (·.1)) (es.map fun x=>x.2.ml))
  |_=>none
 |_+1,_=>none
def eF:Nat:=6
def gD(f:V→List Nat):List V→List Nat
 |[]=>[]
 |v::r=>f v++gD f r
def cZ(m:Mem):Nat→V→List Nat
 |0,_=>[]
 |d+1,.agg cs=>gD (cZ m d) cs
 |d+1,.aZ cs=>gD (cZ m d) cs
 |d+1,.fn _ cs=>gD (cZ m d) cs
 |_+1,.os id=>[id]
 |_+1,.fl id _ _=>[id]
 |_+1,.oe id _ _=>[id]
 |_+1,.om id=>[id]
 |_+1,.tA id _ _=>[id]
 |d+1,.op id off=>id::(match m id with|some (.box cs)=>gD (cZ m d) (cs.drop off)|_=>[])
 |_+1,_=>[]
def Bm(m:Mem):V→Option (PV×Mem)
 |.pv p=>some (p,m)
 |.bf=>some (.rs 0 [],m)
 |.os id=>match m id with
  |some (.arr s et es)=>some (.rs s es,av m id (.oA s et es))
  |some (.oA s _ es)=>some (.rs s es,m)
  |some (.nest s et es)=>some (.rs s (es.map PV.strip),av m id (.oA s et (es.map PV.strip)))
  |_=>none
 |_=>none
def kO:Mem→List V→Option (List PV×Mem)
 |m,[]=>some ([],m)
 |m,v::r=>match Bm m v with
  |some (p,m)=>match kO m r with
   |some (ps,m)=>some (p::ps,m)
   |none=>none
  |none=>none
def sk(m:Mem):V→Option (PV×Mem)
 |.agg cs=>match kO m cs with
  |some (ps,m)=>some (.agg ps,m)
  |none=>none
 |v=>Bm m v
def jd(m:Mem)(n:Nat)(agg:Bool)(v:V):Option (PV×Mem):=
 match toCells n v with
 |some cs=>match kO m cs with
  |some (ps,m)=>if agg then some (.agg ps,m)else match ps with|[p]=>some (p,m)|_=>none
  |none=>none
 |none=>none
mutual
def V.has(id:Nat):V→Bool
 |.agg cs=>cr id cs
 |.aZ cs=>cr id cs
 |.fn _ cs=>cr id cs
 |.os j=>Nat.beq j id
 |.fl j _ _=>Nat.beq j id
 |.oe j _ _=>Nat.beq j id
 |.om j=>Nat.beq j id
 |.tA j _ _=>Nat.beq j id
 |.xg j _ _ _ _ _=>Nat.beq j id
 |.op j _=>Nat.beq j id
 |.yl j=>Nat.beq j id
 |.it j=>Nat.beq j id
 |_=>false
def cr(id:Nat):List V→Bool
 |[]=>false
 |v::r=>v.has id||cr id r
end
mutual
def V.within(M:List Nat):V→Bool
 |.agg cs=>je M cs
 |.aZ cs=>je M cs
 |.fn _ cs=>je M cs
 |.os j=>M.elem j
 |.fl j _ _=>M.elem j
 |.oe j _ _=>M.elem j
 |.om j=>M.elem j
 |.tA j _ _=>M.elem j
 |.xg j _ _ _ _ _=>M.elem j
 |.op j _=>M.elem j
 |.yl j=>M.elem j
 |.it j=>M.elem j
 |_=>true
def je(M:List Nat):List V→Bool
 |[]=>true
 |v::r=>v.within M&&je M r
end
mutual
def V.tn(id:Nat):V→Bool
 |.agg cs=>xh id cs
 |.aZ cs=>xh id cs
 |.fn _ cs=>xh id cs
 |.tA j _ _=>Nat.beq j id
 |.xg j _ _ _ _ _=>Nat.beq j id
 |_=>false
def xh(id:Nat):List V→Bool
 |[]=>false
 |v::r=>v.tn id||xh id r
end
def qu(id:Nat)(v:V):V:=bif v.has id then .top else v
def eQ(id:Nat)(f:Fr):Fr:=fun t=>qu id (f t)
def fM(id:Nat):bL→bL
 |.box cs=>.box (cs.map (qu id))
 |b=>b
def bD(id:Nat)(m:Mem):Mem:=fun j=>match m j with|some b=>some (fM id b)|none=>none
def mn(id:Nat)(v:V):V:=bif v.tn id then .top else v
def gn(id:Nat)(f:Fr):Fr:=fun t=>mn id (f t)
def dO(id:Nat):bL→bL
 |.box cs=>.box (cs.map (mn id))
 |b=>b
def eV(id:Nat)(m:Mem):Mem:=fun j=>match m j with|some b=>some (dO id b)|none=>none
abbrev Kl:=List (Bool×Nat)
def kf:Kl→Fr→Fr
 |[],f=>f
 |(true,id)::r,f=>kf r (eQ id f)
 |(false,id)::r,f=>kf r (gn id f)
def km:Kl→Mem→Mem
 |[],m=>m
 |(true,id)::r,m=>km r (bg (bD id m) id)
 |(false,id)::r,m=>km r (eV id m)
def ry:List (Nat×bL)→Mem→Mem
 |[],m=>m
 |(id,b)::r,m=>ry r (av m id b)
def bL.names:bL→Nat→Bool
 |.box cs,id=>cr id cs
 |_,_=>false
def bL.within(M:List Nat):bL→Bool
 |.box cs=>je M cs
 |_=>true
end Go.Ab
