import GoSem.Step
import GoSem.ClaimData
import Derived.Calls
set_option linter.unusedVariables false
set_option linter.unusedSimpArgs false
namespace Go.Ab
abbrev Bytes:=List UInt8
inductive PV where
 |int (k:IntKind) (n:Int)
 |bool (b:Bool)
 |str (s:Bytes)
 |agg (cs:List PV)
 |bn (vs:List PV)
 |o9
 |rp (cs:List PV)
 |rs (sz:Nat) (es:List PV)
 |pd (sz:Nat) (es:List PV)
 |ux
 |rm (kt:TypeId) (ks vs:List PV)
 |zL
 |fn (f:FuncId) (caps:List PV)
 |Vv (b:Bool)
 |bad
 deriving Inhabited
def PV.cells:PV→List PV
 |.agg cs=>cs
 |v=>[v]
def cell(p:PV)(j:Nat):PV:=p.cells.getD j .bad
def dO(p:PV):(j n:Nat)→List PV
 |_,0=>[]
 |j,n+1=>cell p j::dO p (j+1) n
def aC(sz:Nat)(p:PV):List PV:=dO p 0 sz
inductive Jmp where
 |ret
 |exit (id:Nat)
inductive KT where
 |ready
 |busy
 |done (j:Jmp)
inductive V where
 |pv (p:PV)
 |gF
 |op (id off:Nat)
 |oe (id i off:Nat)
 |os (id:Nat)
 |fx (id lo len:Nat)
 |om (id:Nat)
 |uF (id i off:Nat)
 |yL (id i off s j off2:Nat)
 |fn (f:FuncId) (caps:List V)
 |yl (id:Nat)
 |it (id:Nat)
 |agg (cs:List V)
 |bn (vs:List V)
 |top
 deriving Inhabited
inductive bF where
 |box (cs:List V)
 |arr (sz:Nat) (et:TypeId) (es:List PV)
 |pt (sz:Nat) (et:TypeId) (es:List PV)
 |map (kt:TypeId) (es:List (PV×PV))
 |nest (sz:Nat) (et:TypeId) (es:List PV)
 |eY (kt e:TypeId) (es:List (PV×PV))
 |loop (st:KT)
 |iter (t:TypeId) (es:List (PV×PV)) (cur:Option (PV×PV))
 deriving Inhabited
abbrev Fr:=Nat→V
abbrev Mem:=Nat→Option bF
def fY(f:Fr)(d:Nat)(v:V):Fr:=fun t=>bif Nat.beq t d then v else f t
def iE(f:Fr)(d:Option Nat)(v:V):Fr:=match d with|some d=>fY f d v|none=>f
def al(m:Mem)(d:Nat)(b:bF):Mem:=fun t=>bif Nat.beq t d then some b else m t
def bl(m:Mem)(d:Nat):Mem:=fun t=>bif Nat.beq t d then none else m t
def K9:List (Nat×V)→Fr
 |[]=>fun _=>.top
 |(d,v)::r=>fY (K9 r) d v
def Ci:List (Nat×Option bF)→Mem
 |[]=>fun _=>none
 |(d,b)::r=>fun t=>bif Nat.beq t d then b else Ci r t
abbrev bp:=List (Bool×Nat)
def asInt(q:IntKind):PV→Option Int
 |.int q' n=>if q'=q then some n else none
 |_=>none
def asBool:PV→Option Bool
 |.bool b=>some b
 |_=>none
def cV:PV→Option Bytes
 |.str s=>some s
 |_=>none
def Pa:PV→Option Bool
 |.Vv b=>some b
 |_=>none
def aQ(sz:Nat):PV→Option (List PV)
 |.rs En es=>if En=sz then some es else match es with|[]=>some []|_=>none
 |_=>none
def cO(n:Nat):PV→Option (List PV)
 |.bn vs=>if vs.length=n then some vs else none
 |_=>none
def asAgg(n:Nat):PV→Option Unit
 |.agg cs=>if cs.length=n then some ()else none
 |_=>none
def eK(sz:Nat):PV→Option (List PV)
 |.pd En es=>if En=sz then some es else none
 |_=>none
def PV.isRow:PV→Bool
 |.pd _ _=>true
 |_=>false
def PV.mW:PV→PV
 |.pd sz es=>.rs sz es
 |p=>p
def PV.strip:PV→PV
 |.agg cs=>.agg (cs.map PV.mW)
 |p=>p.mW
def aM(es:List PV)(i:Int):Option PV:=if 0≤i then es[i.toNat]? else none
def Qx(s:Bytes)(i:Int):Option UInt8:=if 0≤i then s[i.toNat]? else none
def ey(s:Nat):List PV→List PV
 |[]=>[]
 |e::es=>aC s e++ey s es
def ff(s n:Nat)(p:PV):List PV:=(List.range n).map fun i=>.agg (dO p (i*s) s)
def Cj:Nat:=1000
inductive Kd where
 |int (q:IntKind)
 |bool
 |str
def so:Kd→PV→Bool
 |.int q,.int q' _=>decide (q'=q)
 |.bool,.bool _=>true
 |.str,.str _=>true
 |_,_=>false
def lI:List Kd→List PV→Bool
 |[],[]=>true
 |k::ks,p::ps=>so k p&&lI ks ps
 |_,_=>false
def PV.isAgg:PV→Bool
 |.agg _=>true
 |_=>false
def PV.plain:PV→Bool
 |.bn _=>false
 |.bad=>false
 |_=>true
def peq:PV→PV→Bool
 |.int _ a,.int _ b=>a==b
 |.bool a,.bool b=>a==b
 |.str a,.str b=>a==b
 |_,_=>false
def dF:List PV→List PV→Bool
 |[],[]=>true
 |a::as,b::bs=>peq a b&&dF as bs
 |_,_=>false
def dD(k:PV)(z:PV):List (PV×PV)→PV
 |[]=>z
 |(a,v)::r=>if dF k.cells a.cells then v else dD k z r
def uy(k:PV):List (PV×PV)→Bool
 |[]=>false
 |(a,_)::r=>dF k.cells a.cells||uy k r
def eG(k v:PV):List (PV×PV)→List (PV×PV)
 |[]=>[(k,v)]
 |(a,u)::r=>if dF k.cells a.cells then(k,v)::r else(a,u)::eG k v r
def ri(k:PV):List (PV×PV)→List (PV×PV)
 |[]=>[]
 |(a,u)::r=>if dF k.cells a.cells then(a,.bad)::r else(a,u)::ri k r
def Ia(sz:Nat)(k:PV):List (PV×PV)→Option (List PV)
 |[]=>some []
 |(a,u)::r=>if dF k.cells a.cells then eK sz u else Ia sz k r
section
variable (P:Program)
def aR(t:TypeId):Nat:=((P.info? t).map (·.size)).getD 0
def Ev(t:TypeId):Nat:=((P.info? t).map (·.bytes)).getD 0
def ay(t:TypeId):Bool:=match P.underlying t with|some (.struct _)|some (.array _ _)=>true|_=>false
def pI(zI:TypeId→Option (List Kd)):List Field→Nat→Option (List Kd)
 |[],_=>some []
 |f::r,off=>if f.offset=off∧f.name≠ "_" then(zI f.type).bind fun a=>(pI zI r (off+a.length)).bind fun b=>some (a++b)else none
def pJ(a:List Kd):Nat→List Kd
 |0=>[]
 |n+1=>a++pJ a n
def zI:Nat→TypeId→Option (List Kd)
 |0,_=>none
 |d+1,t=>match P.underlying t with
  |some (.int q)=>some [.int q]
  |some .bool=>some [.bool]
  |some .string=>some [.str]
  |some (.struct fs)=>if P.stoodInHeld t then none else(pI (zI d) fs.toList 0).bind fun a=>if a.length=aR P t then some a else none
  |some (.array n e)=>(zI d e).bind fun a=>if a.length=aR P e∧n*a.length=aR P t then some (pJ a n)else none
  |_=>none
def uh(kt:TypeId)(ks:List Kd)(k:PV):Bool:=lI ks k.cells&&(ay P kt==k.isAgg)
def rj(t:TypeId):Option (List Kd):=if P.eqGuardType P.depth t then none else zI P 8 t
end
def zM:Value→V
 |.int k n=>if(Lit.int k n).wf then .pv (.int k n)else .top
 |.bool b=>.pv (.bool b)
 |.string s=>if s.data.toList.length≤maxLen then .pv (.str s.data.toList)else .top
 |.pointer none=>.pv .o9
 |.slice none 0 0=>.gF
 |.map none=>.pv .ux
 |.nilFunc=>.pv .zL
 |.nilIface=>.pv (.Vv false)
 |_=>.top
def EV:Value→V
 |.agg cs=>if cs.toList.all (fun c=>match c with|.agg _=>false|.tuple _=>false|_=>true)then .agg (cs.toList.map zM)else .top
 |v=>zM v
def zeroV(P:Program)(t:TypeId):Option V:=((P.info? t).bind (·.zero)).map EV
def toCells(n:Nat):V→Option (List V)
 |.pv (.agg cs)=>if cs.length=n then some (cs.map .pv)else none
 |.agg cs=>if cs.length=n then some cs else none
 |.top|.bn _|.pv (.bn _)|.pv .bad=>none
 |v=>if n=1 then some [v]else none
def aa1:PV→Option PV
 |.pd s rs=>some (.rs s rs)
 |_=>none
def pe(f:V→Option PV):List V→Option (List PV)
 |[]=>some []
 |v::r=>(f v).bind fun p=>(pe f r).bind fun ps=>some (p::ps)
def kn(m:Mem):Nat→V→Option PV
 |0,_=>none
 |_+1,.pv p=>some p
 |_+1,.gF=>some (.rs 0 [])
 |d+1,.agg cs=>(pe (kn m d) cs).bind fun ps=>some (.agg ps)
 |d+1,.bn cs=>(pe (kn m d) cs).bind fun ps=>some (.bn ps)
 |d+1,.fn g cs=>(pe (kn m d) cs).bind fun ps=>some (.fn g ps)
 |_+1,.os id=>match m id with
  |some (.arr s _ es)=>some (.rs s es)
  |some (.pt s _ es)=>some (.rs s es)
  |some (.nest s _ es)=>some (.rs s (es.map PV.strip))
  |_=>none
 |_+1,.uF id i off=>match m id with
  |some (.nest _ _ es)=>(es[i]?).bind fun e=>aa1 (cell e off)
  |_=>none
 |_+1,.fx id lo len=>match m id with
  |some (.arr s _ es)=>some (.rs s ((es.drop lo).take len))
  |some (.pt s _ es)=>some (.rs s ((es.drop lo).take len))
  |_=>none
 |d+1,.op id off=>match m id with
  |some (.box cs)=>(pe (kn m d) (cs.drop off)).bind fun ps=>some (.rp ps)
  |_=>none
 |_+1,.oe id i off=>match m id with
  |some (.arr s _ es)=>(es[i]?).bind fun e=>some (.rp ((aC s e).drop off))
  |some (.pt s _ es)=>(es[i]?).bind fun e=>some (.rp ((aC s e).drop off))
  |_=>none
 |_+1,.om id=>match m id with
  |some (.map kt es)=>some (.rm kt (es.map (·.1)) (es.map (·.2)))
  |some (.eY kt _ es)=>some (.rm kt (es.map (·.1)) (es.map fun x=>x.2.mW))
  |_=>none
 |_+1,_=>none
def ez:Nat:=6
def ic(f:V→List Nat):List V→List Nat
 |[]=>[]
 |v::r=>f v++ic f r
def cP(m:Mem):Nat→V→List Nat
 |0,_=>[]
 |d+1,.agg cs=>ic (cP m d) cs
 |d+1,.bn cs=>ic (cP m d) cs
 |d+1,.fn _ cs=>ic (cP m d) cs
 |_+1,.os id=>[id]
 |_+1,.fx id _ _=>[id]
 |_+1,.oe id _ _=>[id]
 |_+1,.om id=>[id]
 |_+1,.uF id _ _=>[id]
 |d+1,.op id off=>id::(match m id with|some (.box cs)=>ic (cP m d) (cs.drop off)|_=>[])
 |_+1,_=>[]
def Ck(m:Mem):V→Option (PV×Mem)
 |.pv p=>some (p,m)
 |.gF=>some (.rs 0 [],m)
 |.os id=>match m id with
  |some (.arr s et es)=>some (.rs s es,al m id (.pt s et es))
  |some (.pt s _ es)=>some (.rs s es,m)
  |some (.nest s et es)=>some (.rs s (es.map PV.strip),al m id (.pt s et (es.map PV.strip)))
  |_=>none
 |_=>none
def lJ:Mem→List V→Option (List PV×Mem)
 |m,[]=>some ([],m)
 |m,v::r=>match Ck m v with
  |some (p,m)=>match lJ m r with
   |some (ps,m)=>some (p::ps,m)
   |none=>none
  |none=>none
def tg(m:Mem):V→Option (PV×Mem)
 |.agg cs=>match lJ m cs with
  |some (ps,m)=>some (.agg ps,m)
  |none=>none
 |v=>Ck m v
def j4(m:Mem)(n:Nat)(agg:Bool)(v:V):Option (PV×Mem):=
 match toCells n v with
 |some cs=>match lJ m cs with
  |some (ps,m)=>if agg then some (.agg ps,m)else match ps with|[p]=>some (p,m)|_=>none
  |none=>none
 |none=>none
mutual
def V.has(id:Nat):V→Bool
 |.agg cs=>ck id cs
 |.bn cs=>ck id cs
 |.fn _ cs=>ck id cs
 |.os j=>Nat.beq j id
 |.fx j _ _=>Nat.beq j id
 |.oe j _ _=>Nat.beq j id
 |.om j=>Nat.beq j id
 |.uF j _ _=>Nat.beq j id
 |.yL j _ _ _ _ _=>Nat.beq j id
 |.op j _=>Nat.beq j id
 |.yl j=>Nat.beq j id
 |.it j=>Nat.beq j id
 |_=>false
def ck(id:Nat):List V→Bool
 |[]=>false
 |v::r=>v.has id||ck id r
end
mutual
def V.within(M:List Nat):V→Bool
 |.agg cs=>j5 M cs
 |.bn cs=>j5 M cs
 |.fn _ cs=>j5 M cs
 |.os j=>M.elem j
 |.fx j _ _=>M.elem j
 |.oe j _ _=>M.elem j
 |.om j=>M.elem j
 |.uF j _ _=>M.elem j
 |.yL j _ _ _ _ _=>M.elem j
 |.op j _=>M.elem j
 |.yl j=>M.elem j
 |.it j=>M.elem j
 |_=>true
def j5(M:List Nat):List V→Bool
 |[]=>true
 |v::r=>v.within M&&j5 M r
end
mutual
def V.uG(id:Nat):V→Bool
 |.agg cs=>yM id cs
 |.bn cs=>yM id cs
 |.fn _ cs=>yM id cs
 |.uF j _ _=>Nat.beq j id
 |.yL j _ _ _ _ _=>Nat.beq j id
 |_=>false
def yM(id:Nat):List V→Bool
 |[]=>false
 |v::r=>v.uG id||yM id r
end
def rn(id:Nat)(v:V):V:=bif v.has id then .top else v
def eL(id:Nat)(f:Fr):Fr:=fun t=>rn id (f t)
def fZ(id:Nat):bF→bF
 |.box cs=>.box (cs.map (rn id))
 |b=>b
def bB(id:Nat)(m:Mem):Mem:=fun j=>match m j with|some b=>some (fZ id b)|none=>none
def mX(id:Nat)(v:V):V:=bif v.uG id then .top else v
def gG(id:Nat)(f:Fr):Fr:=fun t=>mX id (f t)
def dI(id:Nat):bF→bF
 |.box cs=>.box (cs.map (mX id))
 |b=>b
def eQ(id:Nat)(m:Mem):Mem:=fun j=>match m j with|some b=>some (dI id b)|none=>none
abbrev Kl:=List (Bool×Nat)
def kf:Kl→Fr→Fr
 |[],f=>f
 |(true,id)::r,f=>kf r (eL id f)
 |(false,id)::r,f=>kf r (gG id f)
def km:Kl→Mem→Mem
 |[],m=>m
 |(true,id)::r,m=>km r (bl (bB id m) id)
 |(false,id)::r,m=>km r (eQ id m)
def sj:List (Nat×bF)→Mem→Mem
 |[],m=>m
 |(id,b)::r,m=>sj r (al m id b)
def bF.names:bF→Nat→Bool
 |.box cs,id=>ck id cs
 |_,_=>false
def bF.within(M:List Nat):bF→Bool
 |.box cs=>j5 M cs
 |_=>true
set_option linter.defProp false
def AI:=@Option.some.injEq
def AS:=@List.getElem?_eq_getElem
def AT:=@Bool.false_eq_true
def By:=@Option.bind_eq_some_iff
def BY:=@if_pos
def HO:=@List.getElem?_eq_some_iff
def IN:=@if_neg
def IS:=@List.getElem?_map
def IT:=@Nat.eq_of_beq_eq_true
def No:=@decide_eq_true_eq
def OF:=@Array.getElem?_eq_getElem
def T0:=@List.length_map
def T1:=@if_true
def T2:=@Bool.and_eq_true
def Xp:=@Prod.mk.injEq
def Xq:=@if_false
def YH:=@Array.getElem?_eq_some_iff
def aaO:=@Option.map_eq_some_iff
def aaP:=@Nat.mul_le_mul_right
def aaQ:=@List.mem_of_getElem?
def adN:=@Option.map_some
def afh:=@List.mem_cons
def afi:=@List.getElem?_eq_none
def afj:=@Bool.not_true
def afk:=@Bool.or_eq_true
def afl:=@List.eq_nil_of_length_eq_zero
def afm:=@Int.toNat_natCast
def agH:=@List.getD_cons_succ
def agL:=@List.getD_cons_zero
def agM:=@Nat.le_refl
def agN:=@Array.getD_eq_getD_getElem?
def agO:=@Option.bind_some
def agP:=@List.map_cons
def agQ:=@List.getElem_mem
def agR:=@Array.getElem?_toList
def agS:=@Bool.not_eq_true'
def agT:=@Option.isSome_iff_exists
def agU:=@List.length_cons
def agV:=@Bool.eq_iff_iff
def agW:=@decide_eq_false_iff_not
def agX:=@Bool.not_false
def agY:=@decide_false
def agZ:=@List.mem_map
def ag0:=@List.take_succ_eq_append_getElem
def ag1:=@List.length_append
def ag2:=@List.mem_append
def ag4:=@List.getElem?_of_mem
def ag5:=@List.ext_getElem?
def ag6:=@decide_true
def ag7:=@List.getElem?_append
def ag8:=@List.getElem?_toArray
def ag9:=@List.getElem?_replicate
def aha:=@Bool.true_eq_false
def ahb:=@List.getElem?_set
def ahc:=@List.map_congr_left
def ahd:=@List.getElem?_cons_zero
def ahe:=@List.drop_length
def ahf:=@decide_eq_false
def ahg:=@List.length_nil
def ahh:=@List.getElem?_take_of_lt
def ahi:=@Bool.or_eq_false_iff
def ahj:=@Nat.add_mul
def ahk:=@List.append_assoc
def ahl:=@Nat.le_trans
def ahm:=@Nat.add_assoc
def ahn:=@List.mem_iff_getElem?
def aho:=@beq_eq_false_iff_ne
def ahp:=@Nat.zero_add
def ahq:=@List.all_eq_true
def ahr:=@List.size_toArray
def ahs:=@List.cons.injEq
def aht:=@List.take_length
def ahu:=@List.length_take
def ahv:=@Bool.and_eq_false_iff
def ahw:=@List.pairwise_cons
def ahx:=@List.take_of_length_le
def ahy:=@decide_eq_true
def ahz:=@List.drop_drop
def ahA:=@Bool.false_or
def ahB:=@Option.getD_some
def ahC:=@Nat.blt_eq
def ahD:=@List.length_singleton
def ahE:=@Array.getElem?_setIfInBounds
def ahF:=@Bool.not_eq_false'
def ahG:=@List.any_cons
def ahH:=@Nat.min_eq_left
def ahI:=@List.getElem?_set_ne
def ahJ:=@List.mem_of_mem_take
def ahK:=@List.not_mem_nil
def ahL:=@Nat.add_zero
def ahM:=@Bool.not_eq_true
def ahN:=@List.exists_of_findSome?_eq_some
def ahO:=@Array.getElem?_append_left
def ahP:=@List.findSome?_eq_none_iff
def ahQ:=@List.getElem?_append_right
def ahR:=@List.getElem?_set_self
def ahS:=@List.getElem?_range
def ahT:=@List.getElem_of_mem
def ahU:=@List.findSome?_cons
def ahV:=@Array.length_toList
def ahW:=@Bool.true_and
def ahX:=@Classical.byContradiction
def ahY:=@Bool.and_true
def ahZ:=@List.getElem?_append_left
def ah0:=@List.length_replicate
def ah1:=@Nat.add_sub_cancel
def ah2:=@List.filter_cons
def ah3:=@List.mem_of_mem_drop
def ah4:=@Array.mem_toList_iff
def ah5:=@List.pairwise_append
def ah6:=@Int.lt_irrefl
def ah7:=@Nat.mul_le_mul_left
def ah8:=@List.map_append
def ah9:=@List.nil_append
def aia:=@Array.getElem?_modify
def aib:=@List.mem_range
def aic:=@List.pairwise_iff_getElem
def aid:=@List.take_zero
def aie:=@List.drop_eq_getElem_cons
def aif:=@Array.ext'
def aih:=@Array.getElem?_setIfInBounds_ne
def aii:=@List.mem_filter
def aij:=@List.append_nil
def aik:=@List.any_append
def ail:=@List.map_nil
def aim:=@List.getElem?_cons_succ
def ain:=@Bool.or_false
def aio:=@Nat.mod_eq_of_lt
def aip:=@List.any_eq_true
def aiq:=@List.cons_append
def air:=@List.length_drop
def ais:=@List.head?_eq_getElem?
def ait:=@List.range_succ_eq_map
def aiu:=@List.mem_singleton
def aiv:=@List.countP_le_length
def aiw:=@List.getD_eq_getElem?_getD
def aix:=@List.mem_append_left
def aiy:=@Bool.false_and
def aiz:=@List.countP_cons
def aiA:=@List.mem_toArray
def aiB:=@Int.toNat_of_nonneg
def aiC:=@Nat.sub_zero
def aiD:=@Nat.mul_comm
def aiE:=@List.filter_append
def aiF:=@List.length_set
def aiG:=@List.pairwise_lt_range
def aiH:=@bne_self_eq_false
def aiI:=@not_false_eq_true
def aiJ:=@Nat.mul_le_mul
def aiK:=@List.map_map
def aiL:=@Array.mem_of_getElem?
def aiM:=@Array.eq_empty_of_size_eq_zero
def aiN:=@List.any_nil
def aiO:=@Nat.sub_self
def aiP:=@Nat.min_eq_right
def aiQ:=@List.getLast?_eq_some_getLast
def aiR:=@List.flatMap_def
def aiS:=@List.mem_flatMap
def aiT:=@List.range'_succ
def aiU:=@List.getElem?_modify
def aiV:=@List.reverse_reverse
def aiW:=@List.mem_cons_of_mem
def aiX:=@List.length_eraseIdx
def aiY:=@List.range_eq_range'
def aiZ:=@List.all_cons
def ai0:=@List.map_take
def ai1:=@List.dropLast_concat_getLast
def ai2:=@List.filter_nil
def ai3:=@Option.some.inj
def ai4:=@Array.getElem?_push
def ai5:=@List.take_left'
def ai6:=@Nat.mod_two_eq_zero_or_one
def ai7:=@Array.toList_setIfInBounds
def ai8:=@or_false
def ai9:=@List.map_findSome?
def aja:=@List.getElem?_drop
def ajb:=@List.map_set
def ajc:=@List.zip_cons_cons
def ajd:=@Array.getElem?_map
def aje:=@Option.isSome_none
def ajf:=@List.mapM_cons
def ajg:=@Bool.and_false
def ajh:=@List.getElem?_eq_none_iff
def aji:=@List.extract_eq_take_drop
def ajj:=@List.reverse_cons
def ajk:=@Function.comp_def
def ajl:=@List.Pairwise.imp_of_mem
def ajm:=@List.take_add_one
def ajn:=@Array.size_append
def ajo:=@List.Perm.eq_of_pairwise
def ajp:=@List.map_drop
def ajq:=@List.getLast?_singleton
def ajr:=@Nat.zero_le
def ajs:=@Int.eq_ofNat_of_zero_le
def ajt:=@List.pairwise_singleton
def aju:=@BitVec.toNat_and
def ajv:=@Nat.and_le_right
def ajw:=@Nat.div_eq_of_lt
def ajx:=@List.getElem?_eraseIdx
def ajy:=@List.drop_eq_nil_of_le
def ajz:=@List.range_succ
def ajA:=@List.nodup_cons
def ajB:=@List.pairwise_flatMap
def ajC:=@Nat.le_of_ble_eq_true
def ajD:=@List.length_filter_le
def ajE:=@Array.getElem?_mapIdx
def ajF:=@Nat.beq_refl
def ajG:=@Nat.mul_add_mod
def ajH:=@List.foldl_cons
def ajI:=@Nat.mod_lt
def ajJ:=@List.replicate_succ'
def ajK:=@List.dropLast_concat
def ajL:=@List.getLast?_append
def ajM:=@BitVec.ofInt_natCast
def ajN:=@List.drop_zero
def ajP:=@List.filter_eq_self
def ajQ:=@Array.toList_append
def ajR:=@List.countP_eq_zero
def ajS:=@List.flatMap_append
def ajT:=@and_assoc
def ajU:=@Nat.lt_irrefl
def ajV:=@not_or
def ajW:=@Bool.true_or
def ajX:=@Nat.zero_mul
def ajY:=@Nat.le_total
def ajZ:=@and_true
def aj0:=@ne_eq
def aj1:=@dif_pos
end Go.Ab
