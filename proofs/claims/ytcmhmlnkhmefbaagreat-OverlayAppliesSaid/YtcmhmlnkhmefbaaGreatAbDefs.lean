import GoSem.Step
import GoSem.ClaimData
import Derived.Calls
set_option linter.unusedVariables false
namespace Go.Ab
abbrev Bytes:=List UInt8
inductive PV where
 |int (k:IntKind) (n:Int)
 |bool (b:Bool)
 |str (s:Bytes)
 |agg (cs:List PV)
 |aZ (vs:List PV)
 |nM
 |rp (cs:List PV)
 |rs (sz:Nat) (es:List PV)
 |cK (sz:Nat) (es:List PV)
 |th
 |rm (kt:TypeId) (ks vs:List PV)
 |yB
 |fn (f:FuncId) (mi:List PV)
 |UE (b:Bool)
 |bad
 deriving Inhabited
def PV.cells:PV→List PV
 |.agg cs=>cs
 |v=>[v]
def cell(p:PV)(j:Nat):PV:=p.cells.getD j .bad
def kL(p:PV):(j n:Nat)→List PV
 |_,0=>[]
 |j,n+1=>cell p j::kL p (j+1) n
def aK(sz:Nat)(p:PV):List PV:=kL p 0 sz
inductive Jmp where
 |ret
 |exit (id:Nat)
inductive Jj where
 |ready
 |busy
 |done (j:Jmp)
inductive V where
 |pv (p:PV)
 |bl
 |op (id off:Nat)
 |oe (id i off:Nat)
 |os (id:Nat)
 |fm (id lo len:Nat)
 |om (id:Nat)
 |tx (id i off:Nat)
 |xg (id i off s j off2:Nat)
 |fn (f:FuncId) (mi:List V)
 |yl (id:Nat)
 |it (id:Nat)
 |agg (cs:List V)
 |aZ (vs:List V)
 |top
 deriving Inhabited
inductive bL where
 |box (cs:List V)
 |arr (sz:Nat) (et:TypeId) (es:List PV)
 |nZ (sz:Nat) (et:TypeId) (es:List PV)
 |map (kt:TypeId) (es:List (PV×PV))
 |nest (sz:Nat) (et:TypeId) (es:List PV)
 |e8 (kt e:TypeId) (es:List (PV×PV))
 |loop (st:Jj)
 |iter (t:TypeId) (es:List (PV×PV)) (cur:Option (PV×PV))
 deriving Inhabited
abbrev Fr:=Nat→V
abbrev Mem:=Nat→Option bL
def fo(f:Fr)(d:Nat)(v:V):Fr:=fun t=>bif Nat.beq t d then v else f t
def gW(f:Fr)(d:Option Nat)(v:V):Fr:=match d with|some d=>fo f d v|none=>f
def au(m:Mem)(d:Nat)(b:bL):Mem:=fun t=>bif Nat.beq t d then some b else m t
def bh(m:Mem)(d:Nat):Mem:=fun t=>bif Nat.beq t d then none else m t
def Ju:List (Nat×V)→Fr
 |[]=>fun _=>.top
 |(d,v)::r=>fo (Ju r) d v
def Bg:List (Nat×Option bL)→Mem
 |[]=>fun _=>none
 |(d,b)::r=>fun t=>bif Nat.beq t d then b else Bg r t
abbrev bq:=List (Bool×Nat)
def asInt(q:IntKind):PV→Option Int
 |.int q' n=>if q'=q then some n else none
 |_=>none
def asBool:PV→Option Bool
 |.bool b=>some b
 |_=>none
def bg:PV→Option Bytes
 |.str s=>some s
 |_=>none
def Nt:PV→Option Bool
 |.UE b=>some b
 |_=>none
def ab(sz:Nat):PV→Option (List PV)
 |.rs Df es=>if Df=sz then some es else match es with|[]=>some []|_=>none
 |_=>none
def bJ(n:Nat):PV→Option (List PV)
 |.aZ vs=>if vs.length=n then some vs else none
 |_=>none
def asAgg(n:Nat):PV→Option Unit
 |.agg cs=>if cs.length=n then some ()else none
 |_=>none
def aO(sz:Nat):PV→Option (List PV)
 |.cK Df es=>if Df=sz then some es else none
 |_=>none
def PV.isRow:PV→Bool
 |.cK _ _=>true
 |_=>false
def PV.mj:PV→PV
 |.cK sz es=>.rs sz es
 |p=>p
def PV.strip:PV→PV
 |.agg cs=>.agg (cs.map PV.mj)
 |p=>p.mj
def aR(es:List PV)(i:Int):Option PV:=if 0≤i then es[i.toNat]? else none
def Jv(s:Bytes)(i:Int):Option UInt8:=if 0≤i then s[i.toNat]? else none
inductive Kd where
 |int (q:IntKind)
 |bool
 |str
def rz:Kd→PV→Bool
 |.int q,.int q' _=>decide (q'=q)
 |.bool,.bool _=>true
 |.str,.str _=>true
 |_,_=>false
def gX:List Kd→List PV→Bool
 |[],[]=>true
 |k::ks,p::ps=>rz k p&&gX ks ps
 |_,_=>false
def PV.isAgg:PV→Bool
 |.agg _=>true
 |_=>false
def PV.plain:PV→Bool
 |.aZ _=>false
 |.bad=>false
 |_=>true
def peq:PV→PV→Bool
 |.int _ a,.int _ b=>a==b
 |.bool a,.bool b=>a==b
 |.str a,.str b=>a==b
 |_,_=>false
def cA:List PV→List PV→Bool
 |[],[]=>true
 |a::as,b::bs=>peq a b&&cA as bs
 |_,_=>false
def dH(k:PV)(z:PV):List (PV×PV)→PV
 |[]=>z
 |(a,v)::r=>if cA k.cells a.cells then v else dH k z r
def ti(k:PV):List (PV×PV)→Bool
 |[]=>false
 |(a,_)::r=>cA k.cells a.cells||ti k r
def eM(k v:PV):List (PV×PV)→List (PV×PV)
 |[]=>[(k,v)]
 |(a,u)::r=>if cA k.cells a.cells then(k,v)::r else(a,u)::eM k v r
def qk(k:PV):List (PV×PV)→List (PV×PV)
 |[]=>[]
 |(a,u)::r=>if cA k.cells a.cells then(a,.bad)::r else(a,u)::qk k r
def GG(sz:Nat)(k:PV):List (PV×PV)→Option (List PV)
 |[]=>some []
 |(a,u)::r=>if cA k.cells a.cells then aO sz u else GG sz k r
section
variable (P:Program)
def aU(t:TypeId):Nat:=((P.info? t).map (·.size)).getD 0
def Dm(t:TypeId):Nat:=((P.info? t).map (·.bytes)).getD 0
def aF(t:TypeId):Bool:=match P.underlying t with|some (.struct _)|some (.array _ _)=>true|_=>false
def ov(yy:TypeId→Option (List Kd)):List Field→Nat→Option (List Kd)
 |[],_=>some []
 |f::r,off=>if f.offset=off∧f.name≠ "_" then(yy f.type).bind fun a=>(ov yy r (off+a.length)).bind fun b=>some (a++b)else none
def ow(a:List Kd):Nat→List Kd
 |0=>[]
 |n+1=>a++ow a n
def yy:Nat→TypeId→Option (List Kd)
 |0,_=>none
 |d+1,t=>match P.underlying t with
  |some (.int q)=>some [.int q]
  |some .bool=>some [.bool]
  |some .string=>some [.str]
  |some (.struct fs)=>if P.stoodInHeld t then none else(ov (yy d) fs.toList 0).bind fun a=>if a.length=aU P t then some a else none
  |some (.array n e)=>(yy d e).bind fun a=>if a.length=aU P e∧n*a.length=aU P t then some (ow a n)else none
  |_=>none
def sZ(kt:TypeId)(ks:List Kd)(k:PV):Bool:=gX ks k.cells&&(aF P kt==k.isAgg)
def qm(t:TypeId):Option (List Kd):=if P.eqGuardType P.depth t then none else yy P 8 t
end
def yC:Value→V
 |.int k n=>if(Lit.int k n).wf then .pv (.int k n)else .top
 |.bool b=>.pv (.bool b)
 |.string s=>if s.data.toList.length≤maxLen then .pv (.str s.data.toList)else .top
 |.pointer none=>.pv .nM
 |.slice none 0 0=>.bl
 |.map none=>.pv .th
 |.nilFunc=>.pv .yB
 |.nilIface=>.pv (.UE false)
 |_=>.top
def DJ:Value→V
 |.agg cs=>if cs.toList.all (fun c=>match c with|.agg _=>false|.tuple _=>false|_=>true)then .agg (cs.toList.map yC)else .top
 |v=>yC v
def zeroV(P:Program)(t:TypeId):Option V:=((P.info? t).bind (·.zero)).map DJ
def toCells(n:Nat):V→Option (List V)
 |.pv (.agg cs)=>if cs.length=n then some (cs.map .pv)else none
 |.agg cs=>if cs.length=n then some cs else none
 |.top|.aZ _|.pv (.aZ _)|.pv .bad=>none
 |v=>if n=1 then some [v]else none
def OY:PV→Option PV
 |.cK s rs=>some (.rs s rs)
 |_=>none
def oz(f:V→Option PV):List V→Option (List PV)
 |[]=>some []
 |v::r=>(f v).bind fun p=>(oz f r).bind fun ps=>some (p::ps)
def jt(m:Mem):Nat→V→Option PV
 |0,_=>none
 |_+1,.pv p=>some p
 |_+1,.bl=>some (.rs 0 [])
 |d+1,.agg cs=>(oz (jt m d) cs).bind fun ps=>some (.agg ps)
 |d+1,.aZ cs=>(oz (jt m d) cs).bind fun ps=>some (.aZ ps)
 |d+1,.fn g cs=>(oz (jt m d) cs).bind fun ps=>some (.fn g ps)
 |_+1,.os id=>match m id with
  |some (.arr s _ es)=>some (.rs s es)
  |some (.nZ s _ es)=>some (.rs s es)
  |some (.nest s _ es)=>some (.rs s (es.map PV.strip))
  |_=>none
 |_+1,.tx id i off=>match m id with
  |some (.nest _ _ es)=>(es[i]?).bind fun e=>OY (cell e off)
  |_=>none
 |_+1,.fm id lo len=>match m id with
  |some (.arr s _ es)=>some (.rs s ((es.drop lo).take len))
  |some (.nZ s _ es)=>some (.rs s ((es.drop lo).take len))
  |_=>none
 |d+1,.op id off=>match m id with
  |some (.box cs)=>(oz (jt m d) (cs.drop off)).bind fun ps=>some (.rp ps)
  |_=>none
 |_+1,.oe id i off=>match m id with
  |some (.arr s _ es)=>(es[i]?).bind fun e=>some (.rp ((aK s e).drop off))
  |some (.nZ s _ es)=>(es[i]?).bind fun e=>some (.rp ((aK s e).drop off))
  |_=>none
 |_+1,.om id=>match m id with
  |some (.map kt es)=>some (.rm kt (es.map (·.1)) (es.map (·.2)))
  |some (.e8 kt _ es)=>some (.rm kt (es.map (·.1)) (es.map fun x=>x.2.mj))
  |_=>none
 |_+1,_=>none
def eF:Nat:=6
def gD(f:V→List Nat):List V→List Nat
 |[]=>[]
 |v::r=>f v++gD f r
def cY(m:Mem):Nat→V→List Nat
 |0,_=>[]
 |d+1,.agg cs=>gD (cY m d) cs
 |d+1,.aZ cs=>gD (cY m d) cs
 |d+1,.fn _ cs=>gD (cY m d) cs
 |_+1,.os id=>[id]
 |_+1,.fm id _ _=>[id]
 |_+1,.oe id _ _=>[id]
 |_+1,.om id=>[id]
 |_+1,.tx id _ _=>[id]
 |d+1,.op id off=>id::(match m id with|some (.box cs)=>gD (cY m d) (cs.drop off)|_=>[])
 |_+1,_=>[]
def Bh(m:Mem):V→Option (PV×Mem)
 |.pv p=>some (p,m)
 |.bl=>some (.rs 0 [],m)
 |.os id=>match m id with
  |some (.arr s et es)=>some (.rs s es,au m id (.nZ s et es))
  |some (.nZ s _ es)=>some (.rs s es,m)
  |some (.nest s et es)=>some (.rs s (es.map PV.strip),au m id (.nZ s et (es.map PV.strip)))
  |_=>none
 |_=>none
def kM:Mem→List V→Option (List PV×Mem)
 |m,[]=>some ([],m)
 |m,v::r=>match Bh m v with
  |some (p,m)=>match kM m r with
   |some (ps,m)=>some (p::ps,m)
   |none=>none
  |none=>none
def sl(m:Mem):V→Option (PV×Mem)
 |.agg cs=>match kM m cs with
  |some (ps,m)=>some (.agg ps,m)
  |none=>none
 |v=>Bh m v
def jd(m:Mem)(n:Nat)(agg:Bool)(v:V):Option (PV×Mem):=
 match toCells n v with
 |some cs=>match kM m cs with
  |some (ps,m)=>if agg then some (.agg ps,m)else match ps with|[p]=>some (p,m)|_=>none
  |none=>none
 |none=>none
mutual
def V.has(id:Nat):V→Bool
 |.agg cs=>cr id cs
 |.aZ cs=>cr id cs
 |.fn _ cs=>cr id cs
 |.os j=>Nat.beq j id
 |.fm j _ _=>Nat.beq j id
 |.oe j _ _=>Nat.beq j id
 |.om j=>Nat.beq j id
 |.tx j _ _=>Nat.beq j id
 |.xg j _ _ _ _ _=>Nat.beq j id
 |.op j _=>Nat.beq j id
 |.yl j=>Nat.beq j id
 |.it j=>Nat.beq j id
 |_=>false
def cr(id:Nat):List V→Bool
 |[]=>false
 |v::r=>v.has id||cr id r
end
mutual
def V.within(M:List Nat):V→Bool
 |.agg cs=>je M cs
 |.aZ cs=>je M cs
 |.fn _ cs=>je M cs
 |.os j=>M.elem j
 |.fm j _ _=>M.elem j
 |.oe j _ _=>M.elem j
 |.om j=>M.elem j
 |.tx j _ _=>M.elem j
 |.xg j _ _ _ _ _=>M.elem j
 |.op j _=>M.elem j
 |.yl j=>M.elem j
 |.it j=>M.elem j
 |_=>true
def je(M:List Nat):List V→Bool
 |[]=>true
 |v::r=>v.within M&&je M r
end
mutual
def V.tl(id:Nat):V→Bool
 |.agg cs=>xh id cs
 |.aZ cs=>xh id cs
 |.fn _ cs=>xh id cs
 |.tx j _ _=>Nat.beq j id
 |.xg j _ _ _ _ _=>Nat.beq j id
 |_=>false
def xh(id:Nat):List V→Bool
 |[]=>false
 |v::r=>v.tl id||xh id r
end
def qn(id:Nat)(v:V):V:=bif v.has id then .top else v
def eP(id:Nat)(f:Fr):Fr:=fun t=>qn id (f t)
def fM(id:Nat):bL→bL
 |.box cs=>.box (cs.map (qn id))
 |b=>b
def bB(id:Nat)(m:Mem):Mem:=fun j=>match m j with|some b=>some (fM id b)|none=>none
def ml(id:Nat)(v:V):V:=bif v.tl id then .top else v
def gn(id:Nat)(f:Fr):Fr:=fun t=>ml id (f t)
def dN(id:Nat):bL→bL
 |.box cs=>.box (cs.map (ml id))
 |b=>b
def eU(id:Nat)(m:Mem):Mem:=fun j=>match m j with|some b=>some (dN id b)|none=>none
abbrev Kl:=List (Bool×Nat)
def kf:Kl→Fr→Fr
 |[],f=>f
 |(true,id)::r,f=>kf r (eP id f)
 |(false,id)::r,f=>kf r (gn id f)
def km:Kl→Mem→Mem
 |[],m=>m
 |(true,id)::r,m=>km r (bh (bB id m) id)
 |(false,id)::r,m=>km r (eU id m)
def rr:List (Nat×bL)→Mem→Mem
 |[],m=>m
 |(id,b)::r,m=>rr r (au m id b)
def bL.names:bL→Nat→Bool
 |.box cs,id=>cr id cs
 |_,_=>false
def bL.within(M:List Nat):bL→Bool
 |.box cs=>je M cs
 |_=>true
end Go.Ab
