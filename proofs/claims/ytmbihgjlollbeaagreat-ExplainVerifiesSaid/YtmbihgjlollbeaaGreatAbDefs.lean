import GoSem.Step
import GoSem.ClaimData
import Derived.Calls
set_option linter.all false
namespace Go.Ab
abbrev Bytes:=List UInt8
inductive PV where
 |int (k:IntKind) (n:Int)
 |bool (b:Bool)
 |str (s:Bytes)
 |agg (cs:List PV)
 |aG (vs:List PV)
 |vT
 |rp (cs:List PV)
 |rs (sz:Nat) (es:List PV)
 |uY (sz:Nat) (es:List PV)
 |A3
 |rm (kt:TypeId) (ks vs:List PV)
 |JW
 |fn (f:FuncId) (caps:List PV)
 |ifc (b:Bool)
 |bad
 deriving Inhabited
def PV.cells:PV→List PV
 |.agg cs=>cs
 |v=>[v]
def cell(p:PV)(j:Nat):PV:=p.cells.getD j .bad
def er(p:PV):(j n:Nat)→List PV
 |_,0=>[]
 |j,n+1=>cell p j::er p (j+1) n
def aQ(sz:Nat)(p:PV):List PV:=er p 0 sz
inductive Jmp where
 |ret
 |exit (id:Nat)
inductive TH where
 |ready
 |busy
 |done (j:Jmp)
inductive V where
 |pv (p:PV)
 |jC
 |op (id off:Nat)
 |oe (id i off:Nat)
 |os (id:Nat)
 |gx (id lo len:Nat)
 |om (id:Nat)
 |CC (id i off:Nat)
 |GI (id i off s j off2:Nat)
 |fn (f:FuncId) (caps:List V)
 |yl (id:Nat)
 |it (id:Nat)
 |agg (cs:List V)
 |aG (vs:List V)
 |top
 deriving Inhabited
inductive bX where
 |box (cs:List V)
 |arr (sz:Nat) (et:TypeId) (es:List PV)
 |vK (sz:Nat) (et:TypeId) (es:List PV)
 |map (kt:TypeId) (es:List (PV×PV))
 |nest (sz:Nat) (et:TypeId) (es:List PV)
 |fU (kt e:TypeId) (es:List (PV×PV))
 |loop (st:TH)
 |iter (t:TypeId) (es:List (PV×PV)) (cur:Option (PV×PV))
 deriving Inhabited
abbrev Fr:=Nat→V
abbrev Mem:=Nat→Option bX
def ij(f:Fr)(d:Nat)(v:V):Fr:=fun t=>bif Nat.beq t d then v else f t
def kZ(f:Fr)(d:Option Nat)(v:V):Fr:=match d with|some d=>ij f d v|none=>f
def aD(m:Mem)(d:Nat)(b:bX):Mem:=fun t=>bif Nat.beq t d then some b else m t
def bF(m:Mem)(d:Nat):Mem:=fun t=>bif Nat.beq t d then none else m t
def TS:List (Nat×V)→Fr
 |[]=>fun _=>.top
 |(d,v)::r=>ij (TS r) d v
def Kz:List (Nat×Option bX)→Mem
 |[]=>fun _=>none
 |(d,b)::r=>fun t=>bif Nat.beq t d then b else Kz r t
abbrev bN:=List (Bool×Nat)
def asInt(q:IntKind):PV→Option Int
 |.int q' n=>if q'=q then some n else none
 |_=>none
def asBool:PV→Option Bool
 |.bool b=>some b
 |_=>none
def aO:PV→Option Bytes
 |.str s=>some s
 |_=>none
def Wc:PV→Option Bool
 |.ifc b=>some b
 |_=>none
def ao(sz:Nat):PV→Option (List PV)
 |.rs M8 es=>if M8=sz then some es else match es with|[]=>some []|_=>none
 |_=>none
def cn(n:Nat):PV→Option (List PV)
 |.aG vs=>if vs.length=n then some vs else none
 |_=>none
def asAgg(n:Nat):PV→Option Unit
 |.agg cs=>if cs.length=n then some ()else none
 |_=>none
def fV(sz:Nat):PV→Option (List PV)
 |.uY M8 es=>if M8=sz then some es else none
 |_=>none
def PV.isRow:PV→Bool
 |.uY _ _=>true
 |_=>false
def PV.rS:PV→PV
 |.uY sz es=>.rs sz es
 |p=>p
def PV.strip:PV→PV
 |.agg cs=>.agg (cs.map PV.rS)
 |p=>p.rS
def dB(es:List PV)(i:Int):Option PV:=if 0≤i then es[i.toNat]? else none
def QX(s:Bytes)(i:Int):Option UInt8:=if 0≤i then s[i.toNat]? else none
def gy(s:Nat):List PV→List PV
 |[]=>[]
 |e::es=>aQ s e++gy s es
def fZ(s n:Nat)(p:PV):List PV:=(List.range n).map fun i=>.agg (er p (i*s) s)
def KA:Nat:=1000
inductive Kd where
 |int (q:IntKind)
 |bool
 |str
def Al:Kd→PV→Bool
 |.int q,.int q' _=>decide (q'=q)
 |.bool,.bool _=>true
 |.str,.str _=>true
 |_,_=>false
def mK:List Kd→List PV→Bool
 |[],[]=>true
 |k::ks,p::ps=>Al k p&&mK ks ps
 |_,_=>false
def PV.isAgg:PV→Bool
 |.agg _=>true
 |_=>false
def PV.plain:PV→Bool
 |.aG _=>false
 |.bad=>false
 |_=>true
def peq:PV→PV→Bool
 |.int _ a,.int _ b=>a==b
 |.bool a,.bool b=>a==b
 |.str a,.str b=>a==b
 |_,_=>false
def cz:List PV→List PV→Bool
 |[],[]=>true
 |a::as,b::bs=>peq a b&&cz as bs
 |_,_=>false
def cB(k:PV)(z:PV):List (PV×PV)→PV
 |[]=>z
 |(a,v)::r=>if cz k.cells a.cells then v else cB k z r
def yj(k:PV):List (PV×PV)→Bool
 |[]=>false
 |(a,_)::r=>cz k.cells a.cells||yj k r
def dJ(k v:PV):List (PV×PV)→List (PV×PV)
 |[]=>[(k,v)]
 |(a,u)::r=>if cz k.cells a.cells then(k,v)::r else(a,u)::dJ k v r
def Am(k:PV):List (PV×PV)→List (PV×PV)
 |[]=>[]
 |(a,u)::r=>if cz k.cells a.cells then(a,.bad)::r else(a,u)::Am k r
def QY(sz:Nat)(k:PV):List (PV×PV)→Option (List PV)
 |[]=>some []
 |(a,u)::r=>if cz k.cells a.cells then fV sz u else QY sz k r
section
variable (P:Program)
def bj(t:TypeId):Nat:=((P.info? t).map (·.size)).getD 0
def Nf(t:TypeId):Nat:=((P.info? t).map (·.bytes)).getD 0
def aN(t:TypeId):Bool:=match P.underlying t with|some (.struct _)|some (.array _ _)=>true|_=>false
def vU(HT:TypeId→Option (List Kd)):List Field→Nat→Option (List Kd)
 |[],_=>some []
 |f::r,off=>if f.offset=off∧f.name≠ "_" then(HT f.type).bind fun a=>(vU HT r (off+a.length)).bind fun b=>some (a++b)else none
def vV(a:List Kd):Nat→List Kd
 |0=>[]
 |n+1=>a++vV a n
def HT:Nat→TypeId→Option (List Kd)
 |0,_=>none
 |d+1,t=>match P.underlying t with
  |some (.int q)=>some [.int q]
  |some .bool=>some [.bool]
  |some .string=>some [.str]
  |some (.struct fs)=>if P.stoodInHeld t then none else(vU (HT d) fs.toList 0).bind fun a=>if a.length=bj P t then some a else none
  |some (.array n e)=>(HT d e).bind fun a=>if a.length=bj P e∧n*a.length=bj P t then some (vV a n)else none
  |_=>none
def B0(kt:TypeId)(ks:List Kd)(k:PV):Bool:=mK ks k.cells&&(aN P kt==k.isAgg)
def yy(t:TypeId):Option (List Kd):=if P.eqGuardType P.depth t then none else HT P 8 t
end
def HW:Value→V
 |.int k n=>if(Lit.int k n).wf then .pv (.int k n)else .top
 |.bool b=>.pv (.bool b)
 |.string s=>if s.data.toList.length≤maxLen then .pv (.str s.data.toList)else .top
 |.pointer none=>.pv .vT
 |.slice none 0 0=>.jC
 |.map none=>.pv .A3
 |.nilFunc=>.pv .JW
 |.nilIface=>.pv (.ifc false)
 |_=>.top
def NK:Value→V
 |.agg cs=>if cs.toList.all (fun c=>match c with|.agg _=>false|.tuple _=>false|_=>true)then .agg (cs.toList.map HW)else .top
 |v=>HW v
def zeroV(P:Program)(t:TypeId):Option V:=((P.info? t).bind (·.zero)).map NK
def toCells(n:Nat):V→Option (List V)
 |.pv (.agg cs)=>if cs.length=n then some (cs.map .pv)else none
 |.agg cs=>if cs.length=n then some cs else none
 |.top|.aG _|.pv (.aG _)|.pv .bad=>none
 |v=>if n=1 then some [v]else none
def amy:PV→Option PV
 |.uY s rs=>some (.rs s rs)
 |_=>none
def uZ(f:V→Option PV):List V→Option (List PV)
 |[]=>some []
 |v::r=>(f v).bind fun p=>(uZ f r).bind fun ps=>some (p::ps)
def nv(m:Mem):Nat→V→Option PV
 |0,_=>none
 |_+1,.pv p=>some p
 |_+1,.jC=>some (.rs 0 [])
 |d+1,.agg cs=>(uZ (nv m d) cs).bind fun ps=>some (.agg ps)
 |d+1,.aG cs=>(uZ (nv m d) cs).bind fun ps=>some (.aG ps)
 |d+1,.fn g cs=>(uZ (nv m d) cs).bind fun ps=>some (.fn g ps)
 |_+1,.os id=>match m id with
  |some (.arr s _ es)=>some (.rs s es)
  |some (.vK s _ es)=>some (.rs s es)
  |some (.nest s _ es)=>some (.rs s (es.map PV.strip))
  |_=>none
 |_+1,.CC id i off=>match m id with
  |some (.nest _ _ es)=>(es[i]?).bind fun e=>amy (cell e off)
  |_=>none
 |_+1,.gx id lo len=>match m id with
  |some (.arr s _ es)=>some (.rs s ((es.drop lo).take len))
  |some (.vK s _ es)=>some (.rs s ((es.drop lo).take len))
  |_=>none
 |d+1,.op id off=>match m id with
  |some (.box cs)=>(uZ (nv m d) (cs.drop off)).bind fun ps=>some (.rp ps)
  |_=>none
 |_+1,.oe id i off=>match m id with
  |some (.arr s _ es)=>(es[i]?).bind fun e=>some (.rp ((aQ s e).drop off))
  |some (.vK s _ es)=>(es[i]?).bind fun e=>some (.rp ((aQ s e).drop off))
  |_=>none
 |_+1,.om id=>match m id with
  |some (.map kt es)=>some (.rm kt (es.map (·.1)) (es.map (·.2)))
  |some (.fU kt _ es)=>some (.rm kt (es.map (·.1)) (es.map fun x=>x.2.rS))
  |_=>none
 |_+1,_=>none
def fl:Nat:=6
def j7(f:V→List Nat):List V→List Nat
 |[]=>[]
 |v::r=>f v++j7 f r
def dd(m:Mem):Nat→V→List Nat
 |0,_=>[]
 |d+1,.agg cs=>j7 (dd m d) cs
 |d+1,.aG cs=>j7 (dd m d) cs
 |d+1,.fn _ cs=>j7 (dd m d) cs
 |_+1,.os id=>[id]
 |_+1,.gx id _ _=>[id]
 |_+1,.oe id _ _=>[id]
 |_+1,.om id=>[id]
 |_+1,.CC id _ _=>[id]
 |d+1,.op id off=>id::(match m id with|some (.box cs)=>j7 (dd m d) (cs.drop off)|_=>[])
 |_+1,_=>[]
def KB(m:Mem):V→Option (PV×Mem)
 |.pv p=>some (p,m)
 |.jC=>some (.rs 0 [],m)
 |.os id=>match m id with
  |some (.arr s et es)=>some (.rs s es,aD m id (.vK s et es))
  |some (.vK s _ es)=>some (.rs s es,m)
  |some (.nest s et es)=>some (.rs s (es.map PV.strip),aD m id (.vK s et (es.map PV.strip)))
  |_=>none
 |_=>none
def pj:Mem→List V→Option (List PV×Mem)
 |m,[]=>some ([],m)
 |m,v::r=>match KB m v with
  |some (p,m)=>match pj m r with
   |some (ps,m)=>some (p::ps,m)
   |none=>none
  |none=>none
def A4(m:Mem):V→Option (PV×Mem)
 |.agg cs=>match pj m cs with
  |some (ps,m)=>some (.agg ps,m)
  |none=>none
 |v=>KB m v
def mM(m:Mem)(n:Nat)(agg:Bool)(v:V):Option (PV×Mem):=
 match toCells n v with
 |some cs=>match pj m cs with
  |some (ps,m)=>if agg then some (.agg ps,m)else match ps with|[p]=>some (p,m)|_=>none
  |none=>none
 |none=>none
mutual
def V.has(id:Nat):V→Bool
 |.agg cs=>cA id cs
 |.aG cs=>cA id cs
 |.fn _ cs=>cA id cs
 |.os j=>Nat.beq j id
 |.gx j _ _=>Nat.beq j id
 |.oe j _ _=>Nat.beq j id
 |.om j=>Nat.beq j id
 |.CC j _ _=>Nat.beq j id
 |.GI j _ _ _ _ _=>Nat.beq j id
 |.op j _=>Nat.beq j id
 |.yl j=>Nat.beq j id
 |.it j=>Nat.beq j id
 |_=>false
def cA(id:Nat):List V→Bool
 |[]=>false
 |v::r=>v.has id||cA id r
end
mutual
def V.within(M:List Nat):V→Bool
 |.agg cs=>mN M cs
 |.aG cs=>mN M cs
 |.fn _ cs=>mN M cs
 |.os j=>M.elem j
 |.gx j _ _=>M.elem j
 |.oe j _ _=>M.elem j
 |.om j=>M.elem j
 |.CC j _ _=>M.elem j
 |.GI j _ _ _ _ _=>M.elem j
 |.op j _=>M.elem j
 |.yl j=>M.elem j
 |.it j=>M.elem j
 |_=>true
def mN(M:List Nat):List V→Bool
 |[]=>true
 |v::r=>v.within M&&mN M r
end
mutual
def V.CD(id:Nat):V→Bool
 |.agg cs=>GJ id cs
 |.aG cs=>GJ id cs
 |.fn _ cs=>GJ id cs
 |.CC j _ _=>Nat.beq j id
 |.GI j _ _ _ _ _=>Nat.beq j id
 |_=>false
def GJ(id:Nat):List V→Bool
 |[]=>false
 |v::r=>v.CD id||GJ id r
end
def yz(id:Nat)(v:V):V:=bif v.has id then .top else v
def fD(id:Nat)(f:Fr):Fr:=fun t=>yz id (f t)
def il(id:Nat):bX→bX
 |.box cs=>.box (cs.map (yz id))
 |b=>b
def bS(id:Nat)(m:Mem):Mem:=fun j=>match m j with|some b=>some (il id b)|none=>none
def rU(id:Nat)(v:V):V:=bif v.CD id then .top else v
def jD(id:Nat)(f:Fr):Fr:=fun t=>rU id (f t)
def eh(id:Nat):bX→bX
 |.box cs=>.box (cs.map (rU id))
 |b=>b
def fO(id:Nat)(m:Mem):Mem:=fun j=>match m j with|some b=>some (eh id b)|none=>none
abbrev Kl:=List (Bool×Nat)
def kf:Kl→Fr→Fr
 |[],f=>f
 |(true,id)::r,f=>kf r (fD id f)
 |(false,id)::r,f=>kf r (jD id f)
def km:Kl→Mem→Mem
 |[],m=>m
 |(true,id)::r,m=>km r (bF (bS id m) id)
 |(false,id)::r,m=>km r (fO id m)
def Ak:List (Nat×bX)→Mem→Mem
 |[],m=>m
 |(id,b)::r,m=>Ak r (aD m id b)
def bX.names:bX→Nat→Bool
 |.box cs,id=>cA id cs
 |_,_=>false
def bX.within(M:List Nat):bX→Bool
 |.box cs=>mN M cs
 |_=>true
set_option linter.defProp false
def cN:=@List.getElem?_eq_getElem
def cO:=@Option.some.injEq
def cQ:=@Bool.false_eq_true
def cT:=@decide_eq_true_eq
def AI:=@List.length_map
def AT:=@List.getElem?_map
def By:=@Option.bind_eq_some_iff
def BY:=@if_true
def IN:=@if_pos
def IS:=@if_neg
def IT:=@if_false
def Ka:=@Nat.eq_of_beq_eq_true
def No:=@Option.map_some
def OF:=@List.getElem?_eq_some_iff
def O6:=@List.getD_cons_zero
def T1:=@List.getD_cons_succ
def ahX:=@Bool.not_true
def aiX:=@Array.getElem?_eq_getElem
def amm:=@Bool.and_eq_true
def amn:=@Prod.mk.injEq
def amo:=@List.length_cons
def apj:=@Array.getElem?_eq_some_iff
def aqW:=@List.getElem_mem
def aqX:=@Option.map_eq_some_iff
def aqY:=@List.mem_of_getElem?
def are:=@Int.toNat_natCast
def asi:=@List.length_nil
def asj:=@Nat.mul_le_mul_right
def asl:=@Int.lt_irrefl
def asm:=@List.mem_cons
def asn:=@List.length_append
def aso:=@List.eq_nil_of_length_eq_zero
def asp:=@Bool.true_eq_false
def asq:=@Option.bind_some
def asr:=@List.take_succ_eq_append_getElem
def ass:=@List.map_cons
def ast:=@Nat.le_refl
def asu:=@Array.getD_eq_getD_getElem?
def asv:=@decide_true
def asw:=@Bool.not_false
def asx:=@decide_false
def asy:=@List.mem_iff_getElem?
def asz:=@Bool.or_eq_true
def asA:=@Option.isSome_iff_exists
def asB:=@List.ext_getElem?
def asC:=@List.mem_map
def asD:=@List.append_assoc
def asE:=@List.getElem?_of_mem
def asF:=@List.mem_append
def asG:=@List.take_of_length_le
def asH:=@List.getElem?_append
def asI:=@decide_eq_false_iff_not
def asJ:=@List.map_congr_left
def asK:=@Bool.or_eq_false_iff
def asL:=@List.getElem?_cons_zero
def asM:=@List.getElem?_toArray
def asN:=@List.length_singleton
def asO:=@Bool.not_eq_true'
def asP:=@List.take_length
def asQ:=@List.length_take
def asS:=@Bool.eq_iff_iff
def asT:=@List.map_append
def asU:=@List.getElem?_set
def asV:=@List.all_eq_true
def asW:=@Nat.add_assoc
def asX:=@Array.getElem?_toList
def asY:=@List.exists_of_findSome?_eq_some
def asZ:=@Nat.le_trans
def as0:=@Bool.true_and
def as1:=@Nat.min_eq_left
def as2:=@Nat.add_mul
def as3:=@List.findSome?_cons
def as4:=@List.getElem?_append_left
def as5:=@Nat.zero_add
def as6:=@Bool.not_eq_false'
def as7:=@List.length_replicate
def as8:=@List.getElem?_range
def as9:=@List.drop_length
def ata:=@Bool.or_false
def atb:=@Bool.false_or
def atc:=@Bool.and_true
def atd:=@List.getElem?_append_right
def ate:=@List.drop_eq_getElem_cons
def atf:=@List.append_nil
def atg:=@Classical.byContradiction
def ath:=@List.mem_range
def ati:=@List.any_eq_true
def atj:=@Bool.not_eq_true
def atk:=@Option.getD_some
def atl:=@Nat.blt_eq
def atm:=@List.take_append_getElem
def atn:=@List.size_toArray
def ato:=@List.cons.injEq
def atp:=@List.pairwise_cons
def atq:=@List.mem_of_mem_take
def atr:=@Array.getElem?_append_left
def ats:=@List.getElem_of_mem
def att:=@decide_eq_false
def atu:=@Int.mul_le_mul_of_nonneg_right
def atv:=@Nat.add_zero
def atw:=@Nat.add_sub_cancel
def atx:=@List.mem_of_mem_drop
def aty:=@List.pairwise_append
def atz:=@Array.getElem?_setIfInBounds
def atA:=@decide_eq_true
def atB:=@List.range_succ
def atC:=@List.nil_append
def atD:=@Nat.mul_le_mul_left
def atE:=@List.range_succ_eq_map
def atF:=@List.not_mem_nil
def atG:=@List.getElem?_eq_none
def atH:=@Array.getElem?_modify
def atI:=@List.pairwise_iff_getElem
def atJ:=@List.mem_cons_of_mem
def atK:=@Array.mem_toList_iff
def atL:=@Function.comp_def
def atM:=@List.getElem?_take_of_lt
def atN:=@Array.getElem?_setIfInBounds_ne
def atO:=@Array.ext'
def atP:=@List.find?_range_eq_some
def atQ:=@List.getElem?_cons_succ
def atS:=@Int.eq_ofNat_of_zero_le
def atT:=@List.cons_append
def atU:=@Bool.false_and
def atV:=@List.head?_eq_getElem?
def atW:=@List.length_set
def atX:=@List.length_filter_le
def atZ:=@List.map_map
def at0:=@List.getD_eq_getElem?_getD
def at1:=@List.range_eq_range'
def at2:=@List.drop_drop
def at3:=@List.take_zero
def at4:=@List.mem_toArray
def at5:=@Nat.mod_eq_of_lt
def at6:=@List.range'_succ
def at7:=@Nat.zero_le
def aua:=@beq_eq_false_iff_ne
def aub:=@List.map_nil
def auc:=@Option.isSome_some
def aud:=@List.any_cons
def aue:=@List.find?_eq_none
def auf:=@List.map_take
def aug:=@List.pairwise_lt_range
def auh:=@bne_self_eq_false
def aui:=@Bool.and_false
def auj:=@Nat.mul_le_mul
def auk:=@Int.mul_nonneg
def aul:=@List.drop_zero
def aum:=@Array.eq_empty_of_size_eq_zero
def aun:=@Nat.sub_self
def auo:=@Nat.mul_comm
def aup:=@List.countP_cons
def auq:=@List.getLast?_eq_some_getLast
def aur:=@List.flatMap_def
def aut:=@List.mem_flatMap
def auu:=@List.length_drop
def auv:=@List.getElem?_modify
def auw:=@List.reverse_reverse
def auy:=@List.dropLast_concat_getLast
def auz:=@Array.getElem?_push
def auA:=@List.nodup_cons
def auB:=@List.mem_filter
def auC:=@List.flatMap_append
def auD:=@List.foldl_cons
def auE:=@Array.length_toList
def auG:=@List.find?_cons
def auH:=@Int.fdiv_eq_ediv_of_nonneg
def auJ:=@Array.toList_setIfInBounds
def auK:=@Nat.mod_two_eq_zero_or_one
def auL:=@List.findSome?_nil
def auM:=@and_self
def auN:=@List.map_findSome?
def auO:=@List.zip_cons_cons
def auP:=@Option.isSome_none
def auQ:=@List.mapM_cons
def auR:=@Int.toNat_zero
def auS:=@List.Perm.eq_of_pairwise
def auT:=@List.Pairwise.imp_of_mem
def auU:=@Array.size_append
def auV:=@and_assoc
def auW:=@Nat.le_succ_of_le
def auX:=@List.length_range
def auZ:=@List.take_add_one
def au0:=@List.getElem?_replicate
def au1:=@List.getLast?_singleton
def au2:=@List.all_cons
def au3:=@Nat.and_le_right
def au4:=@Nat.div_eq_of_lt
def au5:=@List.drop_of_length_le
def au6:=@Nat.sub_zero
def au7:=@Int.ediv_nonneg
def au8:=@List.pairwise_flatMap
def au9:=@Bool.and_eq_false_iff
def ava:=@List.set_set
def avb:=@Nat.le_of_ble_eq_true
def avc:=@List.any_append
def avd:=@Array.mem_of_getElem?
def ave:=@Bool.or_true
def avi:=@Nat.mod_lt
def avj:=@or_false
def avk:=@List.dropLast_concat
def avl:=@List.getLast?_append
def avm:=@List.replicate_succ'
def avn:=@List.length_eraseIdx
def avp:=@List.countP_eq_zero
def avq:=@List.filter_eq_self
def avt:=@Nat.zero_mul
def avu:=@Nat.le_of_eq
def avv:=@Bool.or_self
def avx:=@Bool.true_or
def avy:=@not_or
def avz:=@dif_pos
def avA:=@ne_eq
end Go.Ab
