import GoSem.Step
import GoSem.ClaimData
import Derived.Calls
set_option linter.all false
namespace Go.Ab
abbrev Bytes:=List UInt8
inductive PV where
 |int (k:IntKind) (n:Int)
 |bool (b:Bool)
 |str (s:Bytes)
 |agg (cs:List PV)
 |aG (vs:List PV)
 |vO
 |rp (cs:List PV)
 |rs (sz:Nat) (es:List PV)
 |uS (sz:Nat) (es:List PV)
 |AO
 |rm (kt:TypeId) (ks vs:List PV)
 |JP
 |fn (f:FuncId) (caps:List PV)
 |ifc (b:Bool)
 |bad
 deriving Inhabited
def PV.cells:PV→List PV
 |.agg cs=>cs
 |v=>[v]
def cell(p:PV)(j:Nat):PV:=p.cells.getD j .bad
def er(p:PV):(j n:Nat)→List PV
 |_,0=>[]
 |j,n+1=>cell p j::er p (j+1) n
def aQ(sz:Nat)(p:PV):List PV:=er p 0 sz
inductive Jmp where
 |ret
 |exit (id:Nat)
inductive Ty where
 |ready
 |busy
 |done (j:Jmp)
inductive V where
 |pv (p:PV)
 |jB
 |op (id off:Nat)
 |oe (id i off:Nat)
 |os (id:Nat)
 |gw (id lo len:Nat)
 |om (id:Nat)
 |Cx (id i off:Nat)
 |GC (id i off s j off2:Nat)
 |fn (f:FuncId) (caps:List V)
 |yl (id:Nat)
 |it (id:Nat)
 |agg (cs:List V)
 |aG (vs:List V)
 |top
 deriving Inhabited
inductive bW where
 |box (cs:List V)
 |arr (sz:Nat) (et:TypeId) (es:List PV)
 |vF (sz:Nat) (et:TypeId) (es:List PV)
 |map (kt:TypeId) (es:List (PV×PV))
 |nest (sz:Nat) (et:TypeId) (es:List PV)
 |fS (kt e:TypeId) (es:List (PV×PV))
 |loop (st:Ty)
 |iter (t:TypeId) (es:List (PV×PV)) (cur:Option (PV×PV))
 deriving Inhabited
abbrev Fr:=Nat→V
abbrev Mem:=Nat→Option bW
def ig(f:Fr)(d:Nat)(v:V):Fr:=fun t=>bif Nat.beq t d then v else f t
def kN(f:Fr)(d:Option Nat)(v:V):Fr:=match d with|some d=>ig f d v|none=>f
def aD(m:Mem)(d:Nat)(b:bW):Mem:=fun t=>bif Nat.beq t d then some b else m t
def bF(m:Mem)(d:Nat):Mem:=fun t=>bif Nat.beq t d then none else m t
def TK:List (Nat×V)→Fr
 |[]=>fun _=>.top
 |(d,v)::r=>ig (TK r) d v
def Kq:List (Nat×Option bW)→Mem
 |[]=>fun _=>none
 |(d,b)::r=>fun t=>bif Nat.beq t d then b else Kq r t
abbrev bN:=List (Bool×Nat)
def asInt(q:IntKind):PV→Option Int
 |.int q' n=>if q'=q then some n else none
 |_=>none
def asBool:PV→Option Bool
 |.bool b=>some b
 |_=>none
def aO:PV→Option Bytes
 |.str s=>some s
 |_=>none
def V4:PV→Option Bool
 |.ifc b=>some b
 |_=>none
def ao(sz:Nat):PV→Option (List PV)
 |.rs M4 es=>if M4=sz then some es else match es with|[]=>some []|_=>none
 |_=>none
def cg(n:Nat):PV→Option (List PV)
 |.aG vs=>if vs.length=n then some vs else none
 |_=>none
def asAgg(n:Nat):PV→Option Unit
 |.agg cs=>if cs.length=n then some ()else none
 |_=>none
def fT(sz:Nat):PV→Option (List PV)
 |.uS M4 es=>if M4=sz then some es else none
 |_=>none
def PV.isRow:PV→Bool
 |.uS _ _=>true
 |_=>false
def PV.rP:PV→PV
 |.uS sz es=>.rs sz es
 |p=>p
def PV.strip:PV→PV
 |.agg cs=>.agg (cs.map PV.rP)
 |p=>p.rP
def dA(es:List PV)(i:Int):Option PV:=if 0≤i then es[i.toNat]? else none
def QR(s:Bytes)(i:Int):Option UInt8:=if 0≤i then s[i.toNat]? else none
def gx(s:Nat):List PV→List PV
 |[]=>[]
 |e::es=>aQ s e++gx s es
def fX(s n:Nat)(p:PV):List PV:=(List.range n).map fun i=>.agg (er p (i*s) s)
def Kr:Nat:=1000
inductive Kd where
 |int (q:IntKind)
 |bool
 |str
def zW:Kd→PV→Bool
 |.int q,.int q' _=>decide (q'=q)
 |.bool,.bool _=>true
 |.str,.str _=>true
 |_,_=>false
def mI:List Kd→List PV→Bool
 |[],[]=>true
 |k::ks,p::ps=>zW k p&&mI ks ps
 |_,_=>false
def PV.isAgg:PV→Bool
 |.agg _=>true
 |_=>false
def PV.plain:PV→Bool
 |.aG _=>false
 |.bad=>false
 |_=>true
def peq:PV→PV→Bool
 |.int _ a,.int _ b=>a==b
 |.bool a,.bool b=>a==b
 |.str a,.str b=>a==b
 |_,_=>false
def cz:List PV→List PV→Bool
 |[],[]=>true
 |a::as,b::bs=>peq a b&&cz as bs
 |_,_=>false
def cB(k:PV)(z:PV):List (PV×PV)→PV
 |[]=>z
 |(a,v)::r=>if cz k.cells a.cells then v else cB k z r
def yb(k:PV):List (PV×PV)→Bool
 |[]=>false
 |(a,_)::r=>cz k.cells a.cells||yb k r
def dI(k v:PV):List (PV×PV)→List (PV×PV)
 |[]=>[(k,v)]
 |(a,u)::r=>if cz k.cells a.cells then(k,v)::r else(a,u)::dI k v r
def zX(k:PV):List (PV×PV)→List (PV×PV)
 |[]=>[]
 |(a,u)::r=>if cz k.cells a.cells then(a,.bad)::r else(a,u)::zX k r
def QS(sz:Nat)(k:PV):List (PV×PV)→Option (List PV)
 |[]=>some []
 |(a,u)::r=>if cz k.cells a.cells then fT sz u else QS sz k r
section
variable (P:Program)
def bj(t:TypeId):Nat:=((P.info? t).map (·.size)).getD 0
def M9(t:TypeId):Nat:=((P.info? t).map (·.bytes)).getD 0
def aN(t:TypeId):Bool:=match P.underlying t with|some (.struct _)|some (.array _ _)=>true|_=>false
def vP(HP:TypeId→Option (List Kd)):List Field→Nat→Option (List Kd)
 |[],_=>some []
 |f::r,off=>if f.offset=off∧f.name≠ "_" then(HP f.type).bind fun a=>(vP HP r (off+a.length)).bind fun b=>some (a++b)else none
def vQ(a:List Kd):Nat→List Kd
 |0=>[]
 |n+1=>a++vQ a n
def HP:Nat→TypeId→Option (List Kd)
 |0,_=>none
 |d+1,t=>match P.underlying t with
  |some (.int q)=>some [.int q]
  |some .bool=>some [.bool]
  |some .string=>some [.str]
  |some (.struct fs)=>if P.stoodInHeld t then none else(vP (HP d) fs.toList 0).bind fun a=>if a.length=bj P t then some a else none
  |some (.array n e)=>(HP d e).bind fun a=>if a.length=bj P e∧n*a.length=bj P t then some (vQ a n)else none
  |_=>none
def BV(kt:TypeId)(ks:List Kd)(k:PV):Bool:=mI ks k.cells&&(aN P kt==k.isAgg)
def yq(t:TypeId):Option (List Kd):=if P.eqGuardType P.depth t then none else HP P 8 t
end
def HR:Value→V
 |.int k n=>if(Lit.int k n).wf then .pv (.int k n)else .top
 |.bool b=>.pv (.bool b)
 |.string s=>if s.data.toList.length≤maxLen then .pv (.str s.data.toList)else .top
 |.pointer none=>.pv .vO
 |.slice none 0 0=>.jB
 |.map none=>.pv .AO
 |.nilFunc=>.pv .JP
 |.nilIface=>.pv (.ifc false)
 |_=>.top
def NG:Value→V
 |.agg cs=>if cs.toList.all (fun c=>match c with|.agg _=>false|.tuple _=>false|_=>true)then .agg (cs.toList.map HR)else .top
 |v=>HR v
def zeroV(P:Program)(t:TypeId):Option V:=((P.info? t).bind (·.zero)).map NG
def toCells(n:Nat):V→Option (List V)
 |.pv (.agg cs)=>if cs.length=n then some (cs.map .pv)else none
 |.agg cs=>if cs.length=n then some cs else none
 |.top|.aG _|.pv (.aG _)|.pv .bad=>none
 |v=>if n=1 then some [v]else none
def amo:PV→Option PV
 |.uS s rs=>some (.rs s rs)
 |_=>none
def uT(f:V→Option PV):List V→Option (List PV)
 |[]=>some []
 |v::r=>(f v).bind fun p=>(uT f r).bind fun ps=>some (p::ps)
def nu(m:Mem):Nat→V→Option PV
 |0,_=>none
 |_+1,.pv p=>some p
 |_+1,.jB=>some (.rs 0 [])
 |d+1,.agg cs=>(uT (nu m d) cs).bind fun ps=>some (.agg ps)
 |d+1,.aG cs=>(uT (nu m d) cs).bind fun ps=>some (.aG ps)
 |d+1,.fn g cs=>(uT (nu m d) cs).bind fun ps=>some (.fn g ps)
 |_+1,.os id=>match m id with
  |some (.arr s _ es)=>some (.rs s es)
  |some (.vF s _ es)=>some (.rs s es)
  |some (.nest s _ es)=>some (.rs s (es.map PV.strip))
  |_=>none
 |_+1,.Cx id i off=>match m id with
  |some (.nest _ _ es)=>(es[i]?).bind fun e=>amo (cell e off)
  |_=>none
 |_+1,.gw id lo len=>match m id with
  |some (.arr s _ es)=>some (.rs s ((es.drop lo).take len))
  |some (.vF s _ es)=>some (.rs s ((es.drop lo).take len))
  |_=>none
 |d+1,.op id off=>match m id with
  |some (.box cs)=>(uT (nu m d) (cs.drop off)).bind fun ps=>some (.rp ps)
  |_=>none
 |_+1,.oe id i off=>match m id with
  |some (.arr s _ es)=>(es[i]?).bind fun e=>some (.rp ((aQ s e).drop off))
  |some (.vF s _ es)=>(es[i]?).bind fun e=>some (.rp ((aQ s e).drop off))
  |_=>none
 |_+1,.om id=>match m id with
  |some (.map kt es)=>some (.rm kt (es.map (·.1)) (es.map (·.2)))
  |some (.fS kt _ es)=>some (.rm kt (es.map (·.1)) (es.map fun x=>x.2.rP))
  |_=>none
 |_+1,_=>none
def fl:Nat:=6
def j6(f:V→List Nat):List V→List Nat
 |[]=>[]
 |v::r=>f v++j6 f r
def db(m:Mem):Nat→V→List Nat
 |0,_=>[]
 |d+1,.agg cs=>j6 (db m d) cs
 |d+1,.aG cs=>j6 (db m d) cs
 |d+1,.fn _ cs=>j6 (db m d) cs
 |_+1,.os id=>[id]
 |_+1,.gw id _ _=>[id]
 |_+1,.oe id _ _=>[id]
 |_+1,.om id=>[id]
 |_+1,.Cx id _ _=>[id]
 |d+1,.op id off=>id::(match m id with|some (.box cs)=>j6 (db m d) (cs.drop off)|_=>[])
 |_+1,_=>[]
def Ks(m:Mem):V→Option (PV×Mem)
 |.pv p=>some (p,m)
 |.jB=>some (.rs 0 [],m)
 |.os id=>match m id with
  |some (.arr s et es)=>some (.rs s es,aD m id (.vF s et es))
  |some (.vF s _ es)=>some (.rs s es,m)
  |some (.nest s et es)=>some (.rs s (es.map PV.strip),aD m id (.vF s et (es.map PV.strip)))
  |_=>none
 |_=>none
def pg:Mem→List V→Option (List PV×Mem)
 |m,[]=>some ([],m)
 |m,v::r=>match Ks m v with
  |some (p,m)=>match pg m r with
   |some (ps,m)=>some (p::ps,m)
   |none=>none
  |none=>none
def AP(m:Mem):V→Option (PV×Mem)
 |.agg cs=>match pg m cs with
  |some (ps,m)=>some (.agg ps,m)
  |none=>none
 |v=>Ks m v
def mK(m:Mem)(n:Nat)(agg:Bool)(v:V):Option (PV×Mem):=
 match toCells n v with
 |some cs=>match pg m cs with
  |some (ps,m)=>if agg then some (.agg ps,m)else match ps with|[p]=>some (p,m)|_=>none
  |none=>none
 |none=>none
mutual
def V.has(id:Nat):V→Bool
 |.agg cs=>cA id cs
 |.aG cs=>cA id cs
 |.fn _ cs=>cA id cs
 |.os j=>Nat.beq j id
 |.gw j _ _=>Nat.beq j id
 |.oe j _ _=>Nat.beq j id
 |.om j=>Nat.beq j id
 |.Cx j _ _=>Nat.beq j id
 |.GC j _ _ _ _ _=>Nat.beq j id
 |.op j _=>Nat.beq j id
 |.yl j=>Nat.beq j id
 |.it j=>Nat.beq j id
 |_=>false
def cA(id:Nat):List V→Bool
 |[]=>false
 |v::r=>v.has id||cA id r
end
mutual
def V.within(M:List Nat):V→Bool
 |.agg cs=>mL M cs
 |.aG cs=>mL M cs
 |.fn _ cs=>mL M cs
 |.os j=>M.elem j
 |.gw j _ _=>M.elem j
 |.oe j _ _=>M.elem j
 |.om j=>M.elem j
 |.Cx j _ _=>M.elem j
 |.GC j _ _ _ _ _=>M.elem j
 |.op j _=>M.elem j
 |.yl j=>M.elem j
 |.it j=>M.elem j
 |_=>true
def mL(M:List Nat):List V→Bool
 |[]=>true
 |v::r=>v.within M&&mL M r
end
mutual
def V.Cy(id:Nat):V→Bool
 |.agg cs=>GD id cs
 |.aG cs=>GD id cs
 |.fn _ cs=>GD id cs
 |.Cx j _ _=>Nat.beq j id
 |.GC j _ _ _ _ _=>Nat.beq j id
 |_=>false
def GD(id:Nat):List V→Bool
 |[]=>false
 |v::r=>v.Cy id||GD id r
end
def yr(id:Nat)(v:V):V:=bif v.has id then .top else v
def fC(id:Nat)(f:Fr):Fr:=fun t=>yr id (f t)
def ij(id:Nat):bW→bW
 |.box cs=>.box (cs.map (yr id))
 |b=>b
def bR(id:Nat)(m:Mem):Mem:=fun j=>match m j with|some b=>some (ij id b)|none=>none
def rQ(id:Nat)(v:V):V:=bif v.Cy id then .top else v
def jC(id:Nat)(f:Fr):Fr:=fun t=>rQ id (f t)
def eh(id:Nat):bW→bW
 |.box cs=>.box (cs.map (rQ id))
 |b=>b
def fM(id:Nat)(m:Mem):Mem:=fun j=>match m j with|some b=>some (eh id b)|none=>none
abbrev Kl:=List (Bool×Nat)
def kf:Kl→Fr→Fr
 |[],f=>f
 |(true,id)::r,f=>kf r (fC id f)
 |(false,id)::r,f=>kf r (jC id f)
def km:Kl→Mem→Mem
 |[],m=>m
 |(true,id)::r,m=>km r (bF (bR id m) id)
 |(false,id)::r,m=>km r (fM id m)
def zV:List (Nat×bW)→Mem→Mem
 |[],m=>m
 |(id,b)::r,m=>zV r (aD m id b)
def bW.names:bW→Nat→Bool
 |.box cs,id=>cA id cs
 |_,_=>false
def bW.within(M:List Nat):bW→Bool
 |.box cs=>mL M cs
 |_=>true
set_option linter.defProp false
def cN:=@List.getElem?_eq_getElem
def cO:=@Option.some.injEq
def cQ:=@Bool.false_eq_true
def cT:=@decide_eq_true_eq
def AI:=@List.length_map
def AT:=@List.getElem?_map
def By:=@Option.bind_eq_some_iff
def BY:=@if_true
def IN:=@if_pos
def IS:=@if_false
def IT:=@if_neg
def No:=@Option.map_some
def OF:=@Nat.eq_of_beq_eq_true
def Qs:=@List.getElem?_eq_some_iff
def abm:=@List.getD_cons_zero
def ahH:=@List.getD_cons_succ
def aiI:=@Bool.not_true
def ame:=@Array.getElem?_eq_getElem
def ao9:=@Bool.and_eq_true
def apa:=@Prod.mk.injEq
def aqP:=@List.length_cons
def are:=@Array.getElem?_eq_some_iff
def ar9:=@List.getElem_mem
def asa:=@Option.map_eq_some_iff
def asb:=@List.mem_of_getElem?
def asc:=@Int.toNat_natCast
def asd:=@Nat.mul_le_mul_right
def ase:=@List.length_nil
def asf:=@Int.lt_irrefl
def asg:=@List.mem_cons
def ash:=@List.eq_nil_of_length_eq_zero
def asi:=@List.length_append
def asj:=@Bool.true_eq_false
def asl:=@Option.bind_some
def asm:=@List.take_succ_eq_append_getElem
def asn:=@List.map_cons
def aso:=@Nat.le_refl
def asp:=@Array.getD_eq_getD_getElem?
def asq:=@decide_true
def asr:=@Bool.not_false
def ass:=@decide_false
def ast:=@List.mem_iff_getElem?
def asu:=@Bool.or_eq_true
def asv:=@Option.isSome_iff_exists
def asw:=@List.ext_getElem?
def asx:=@List.mem_map
def asy:=@List.append_assoc
def asz:=@List.getElem?_of_mem
def asA:=@List.take_of_length_le
def asB:=@List.mem_append
def asC:=@List.getElem?_append
def asD:=@List.map_congr_left
def asE:=@Bool.or_eq_false_iff
def asF:=@List.getElem?_cons_zero
def asG:=@List.getElem?_toArray
def asH:=@List.length_singleton
def asI:=@Bool.not_eq_true'
def asJ:=@List.take_length
def asK:=@List.length_take
def asL:=@Bool.eq_iff_iff
def asM:=@List.map_append
def asN:=@List.getElem?_set
def asO:=@List.all_eq_true
def asP:=@Array.getElem?_toList
def asQ:=@Nat.add_assoc
def asS:=@List.exists_of_findSome?_eq_some
def asT:=@Nat.le_trans
def asU:=@Nat.min_eq_left
def asV:=@Nat.add_mul
def asW:=@List.findSome?_cons
def asX:=@Bool.true_and
def asY:=@List.getElem?_append_left
def asZ:=@Nat.zero_add
def as0:=@Bool.not_eq_false'
def as1:=@List.length_replicate
def as2:=@List.getElem?_range
def as3:=@List.drop_length
def as4:=@Bool.or_false
def as5:=@Bool.false_or
def as6:=@decide_eq_false_iff_not
def as7:=@Bool.and_true
def as8:=@List.getElem?_append_right
def as9:=@Classical.byContradiction
def ata:=@List.mem_range
def atb:=@List.drop_eq_getElem_cons
def atc:=@List.append_nil
def atd:=@List.any_eq_true
def ate:=@Option.getD_some
def atf:=@Bool.not_eq_true
def atg:=@List.take_append_getElem
def ath:=@Nat.blt_eq
def ati:=@List.size_toArray
def atj:=@List.pairwise_cons
def atk:=@List.cons.injEq
def atl:=@List.mem_of_mem_take
def atm:=@Array.getElem?_append_left
def atn:=@List.getElem_of_mem
def ato:=@Nat.add_zero
def atp:=@Int.mul_le_mul_of_nonneg_right
def atq:=@decide_eq_false
def atr:=@Nat.add_sub_cancel
def ats:=@List.pairwise_append
def att:=@List.mem_of_mem_drop
def atu:=@Array.getElem?_setIfInBounds
def atv:=@List.range_succ
def atw:=@Nat.mul_le_mul_left
def atx:=@List.nil_append
def aty:=@List.range_succ_eq_map
def atz:=@List.not_mem_nil
def atA:=@List.getElem?_eq_none
def atB:=@Array.getElem?_modify
def atC:=@List.pairwise_iff_getElem
def atD:=@decide_eq_true
def atE:=@List.mem_cons_of_mem
def atF:=@Array.mem_toList_iff
def atG:=@List.find?_range_eq_some
def atH:=@List.getElem?_take_of_lt
def atI:=@Array.getElem?_setIfInBounds_ne
def atJ:=@Function.comp_def
def atK:=@Array.ext'
def atL:=@List.getElem?_cons_succ
def atM:=@Int.eq_ofNat_of_zero_le
def atN:=@List.cons_append
def atO:=@Bool.false_and
def atP:=@List.head?_eq_getElem?
def atS:=@List.length_filter_le
def atT:=@List.length_set
def atU:=@List.map_map
def atV:=@List.getD_eq_getElem?_getD
def atW:=@List.range_eq_range'
def atX:=@List.take_zero
def atY:=@List.drop_drop
def atZ:=@Nat.mod_eq_of_lt
def at0:=@List.mem_toArray
def at1:=@List.range'_succ
def at2:=@beq_eq_false_iff_ne
def at3:=@List.map_nil
def at4:=@List.map_take
def at5:=@List.any_cons
def at6:=@List.find?_eq_none
def at7:=@Option.isSome_some
def aua:=@List.pairwise_lt_range
def aub:=@bne_self_eq_false
def auc:=@Bool.and_false
def aud:=@List.drop_zero
def aue:=@Nat.mul_le_mul
def auf:=@Int.mul_nonneg
def aug:=@Array.eq_empty_of_size_eq_zero
def auh:=@Nat.mul_comm
def aui:=@Nat.sub_self
def auj:=@List.length_drop
def auk:=@List.flatMap_def
def aul:=@List.countP_cons
def aum:=@List.getLast?_eq_some_getLast
def aun:=@List.mem_flatMap
def aup:=@List.getElem?_modify
def auq:=@List.reverse_reverse
def aur:=@List.dropLast_concat_getLast
def aus:=@List.find?_cons
def aut:=@List.flatMap_append
def auv:=@List.mem_filter
def auw:=@List.foldl_cons
def auy:=@Array.getElem?_push
def auz:=@Array.length_toList
def auA:=@List.nodup_cons
def auC:=@Nat.mod_two_eq_zero_or_one
def auD:=@Int.fdiv_eq_ediv_of_nonneg
def auE:=@Array.toList_setIfInBounds
def auF:=@List.findSome?_nil
def auG:=@List.map_findSome?
def auH:=@Option.isSome_none
def auI:=@List.zip_cons_cons
def auJ:=@List.mapM_cons
def auK:=@Int.toNat_zero
def auL:=@Array.size_append
def auM:=@and_assoc
def auO:=@List.take_add_one
def auP:=@List.Pairwise.imp_of_mem
def auQ:=@Nat.le_succ_of_le
def auR:=@List.Perm.eq_of_pairwise
def auS:=@List.length_range
def auT:=@List.getLast?_singleton
def auU:=@and_self
def auV:=@List.getElem?_replicate
def auW:=@List.all_cons
def auX:=@Nat.and_le_right
def auY:=@Nat.div_eq_of_lt
def auZ:=@List.drop_of_length_le
def au1:=@Int.ediv_nonneg
def au2:=@Nat.le_of_ble_eq_true
def au3:=@Nat.sub_zero
def au4:=@List.pairwise_flatMap
def au5:=@List.any_append
def au6:=@List.set_set
def au7:=@Bool.or_true
def ava:=@Array.mem_of_getElem?
def avb:=@Nat.mod_lt
def avc:=@or_false
def avd:=@List.length_eraseIdx
def ave:=@List.getLast?_append
def avf:=@List.dropLast_concat
def avg:=@List.replicate_succ'
def avi:=@List.countP_eq_zero
def avj:=@Nat.zero_le
def avk:=@List.filter_eq_self
def avn:=@Bool.true_or
def avp:=@Nat.zero_mul
def avq:=@Bool.or_self
def avr:=@Nat.le_of_eq
def avs:=@not_or
def avt:=@dif_pos
def avu:=@ne_eq
end Go.Ab
