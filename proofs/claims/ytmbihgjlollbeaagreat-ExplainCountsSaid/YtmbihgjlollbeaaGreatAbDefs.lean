import GoSem.Step
import GoSem.ClaimData
import Derived.Calls
set_option linter.unusedVariables false
set_option linter.unusedSimpArgs false
namespace Go.Ab
abbrev Bytes:=List UInt8
inductive PV where
 |int (k:IntKind) (n:Int)
 |bool (b:Bool)
 |str (s:Bytes)
 |agg (cs:List PV)
 |aP (vs:List PV)
 |q8
 |rp (cs:List PV)
 |rs (sz:Nat) (es:List PV)
 |qE (sz:Nat) (es:List PV)
 |uU
 |rm (kt:TypeId) (ks vs:List PV)
 |Dx
 |fn (f:FuncId) (caps:List PV)
 |Ys (b:Bool)
 |bad
 deriving Inhabited
def PV.cells:PV→List PV
 |.agg cs=>cs
 |v=>[v]
def cell(p:PV)(j:Nat):PV:=p.cells.getD j .bad
def dO(p:PV):(j n:Nat)→List PV
 |_,0=>[]
 |j,n+1=>cell p j::dO p (j+1) n
def aC(sz:Nat)(p:PV):List PV:=dO p 0 sz
inductive Jmp where
 |ret
 |exit (id:Nat)
inductive Mw where
 |ready
 |busy
 |done (j:Jmp)
inductive V where
 |pv (p:PV)
 |iq
 |op (id off:Nat)
 |oe (id i off:Nat)
 |os (id:Nat)
 |fL (id lo len:Nat)
 |om (id:Nat)
 |wI (id i off:Nat)
 |Ar (id i off s j off2:Nat)
 |fn (f:FuncId) (caps:List V)
 |yl (id:Nat)
 |it (id:Nat)
 |agg (cs:List V)
 |aP (vs:List V)
 |top
 deriving Inhabited
inductive bH where
 |box (cs:List V)
 |arr (sz:Nat) (et:TypeId) (es:List PV)
 |qT (sz:Nat) (et:TypeId) (es:List PV)
 |map (kt:TypeId) (es:List (PV×PV))
 |nest (sz:Nat) (et:TypeId) (es:List PV)
 |fa (kt e:TypeId) (es:List (PV×PV))
 |loop (st:Mw)
 |iter (t:TypeId) (es:List (PV×PV)) (cur:Option (PV×PV))
 deriving Inhabited
abbrev Fr:=Nat→V
abbrev Mem:=Nat→Option bH
def gp(f:Fr)(d:Nat)(v:V):Fr:=fun t=>bif Nat.beq t d then v else f t
def jt(f:Fr)(d:Option Nat)(v:V):Fr:=match d with|some d=>gp f d v|none=>f
def ao(m:Mem)(d:Nat)(b:bH):Mem:=fun t=>bif Nat.beq t d then some b else m t
def bg(m:Mem)(d:Nat):Mem:=fun t=>bif Nat.beq t d then none else m t
def MG:List (Nat×V)→Fr
 |[]=>fun _=>.top
 |(d,v)::r=>gp (MG r) d v
def D3:List (Nat×Option bH)→Mem
 |[]=>fun _=>none
 |(d,b)::r=>fun t=>bif Nat.beq t d then b else D3 r t
abbrev bq:=List (Bool×Nat)
def asInt(q:IntKind):PV→Option Int
 |.int q' n=>if q'=q then some n else none
 |_=>none
def asBool:PV→Option Bool
 |.bool b=>some b
 |_=>none
def bG:PV→Option Bytes
 |.str s=>some s
 |_=>none
def OW:PV→Option Bool
 |.Ys b=>some b
 |_=>none
def aw(sz:Nat):PV→Option (List PV)
 |.rs Gp es=>if Gp=sz then some es else match es with|[]=>some []|_=>none
 |_=>none
def dq(n:Nat):PV→Option (List PV)
 |.aP vs=>if vs.length=n then some vs else none
 |_=>none
def asAgg(n:Nat):PV→Option Unit
 |.agg cs=>if cs.length=n then some ()else none
 |_=>none
def fb(sz:Nat):PV→Option (List PV)
 |.qE Gp es=>if Gp=sz then some es else none
 |_=>none
def PV.isRow:PV→Bool
 |.qE _ _=>true
 |_=>false
def PV.oA:PV→PV
 |.qE sz es=>.rs sz es
 |p=>p
def PV.strip:PV→PV
 |.agg cs=>.agg (cs.map PV.oA)
 |p=>p.oA
def fM(es:List PV)(i:Int):Option PV:=if 0≤i then es[i.toNat]? else none
def Yt(s:Bytes)(i:Int):Option UInt8:=if 0≤i then s[i.toNat]? else none
def fN(s:Nat):List PV→List PV
 |[]=>[]
 |e::es=>aC s e++fN s es
def fk(s n:Nat)(p:PV):List PV:=(List.range n).map fun i=>.agg (dO p (i*s) s)
def D4:Nat:=1000
inductive Kd where
 |int (q:IntKind)
 |bool
 |str
def ug:Kd→PV→Bool
 |.int q,.int q' _=>decide (q'=q)
 |.bool,.bool _=>true
 |.str,.str _=>true
 |_,_=>false
def lN:List Kd→List PV→Bool
 |[],[]=>true
 |k::ks,p::ps=>ug k p&&lN ks ps
 |_,_=>false
def PV.isAgg:PV→Bool
 |.agg _=>true
 |_=>false
def PV.plain:PV→Bool
 |.aP _=>false
 |.bad=>false
 |_=>true
def peq:PV→PV→Bool
 |.int _ a,.int _ b=>a==b
 |.bool a,.bool b=>a==b
 |.str a,.str b=>a==b
 |_,_=>false
def cz:List PV→List PV→Bool
 |[],[]=>true
 |a::as,b::bs=>peq a b&&cz as bs
 |_,_=>false
def b9(k:PV)(z:PV):List (PV×PV)→PV
 |[]=>z
 |(a,v)::r=>if cz k.cells a.cells then v else b9 k z r
def sH(k:PV):List (PV×PV)→Bool
 |[]=>false
 |(a,_)::r=>cz k.cells a.cells||sH k r
def df(k v:PV):List (PV×PV)→List (PV×PV)
 |[]=>[(k,v)]
 |(a,u)::r=>if cz k.cells a.cells then(k,v)::r else(a,u)::df k v r
def uh(k:PV):List (PV×PV)→List (PV×PV)
 |[]=>[]
 |(a,u)::r=>if cz k.cells a.cells then(a,.bad)::r else(a,u)::uh k r
def J6(sz:Nat)(k:PV):List (PV×PV)→Option (List PV)
 |[]=>some []
 |(a,u)::r=>if cz k.cells a.cells then fb sz u else J6 sz k r
section
variable (P:Program)
def aO(t:TypeId):Nat:=((P.info? t).map (·.size)).getD 0
def Gt(t:TypeId):Nat:=((P.info? t).map (·.bytes)).getD 0
def ax(t:TypeId):Bool:=match P.underlying t with|some (.struct _)|some (.array _ _)=>true|_=>false
def q9(BP:TypeId→Option (List Kd)):List Field→Nat→Option (List Kd)
 |[],_=>some []
 |f::r,off=>if f.offset=off∧f.name≠ "_" then(BP f.type).bind fun a=>(q9 BP r (off+a.length)).bind fun b=>some (a++b)else none
def re(a:List Kd):Nat→List Kd
 |0=>[]
 |n+1=>a++re a n
def BP:Nat→TypeId→Option (List Kd)
 |0,_=>none
 |d+1,t=>match P.underlying t with
  |some (.int q)=>some [.int q]
  |some .bool=>some [.bool]
  |some .string=>some [.str]
  |some (.struct fs)=>if P.stoodInHeld t then none else(q9 (BP d) fs.toList 0).bind fun a=>if a.length=aO P t then some a else none
  |some (.array n e)=>(BP d e).bind fun a=>if a.length=aO P e∧n*a.length=aO P t then some (re a n)else none
  |_=>none
def vP(kt:TypeId)(ks:List Kd)(k:PV):Bool:=lN ks k.cells&&(ax P kt==k.isAgg)
def sU(t:TypeId):Option (List Kd):=if P.eqGuardType P.depth t then none else BP P 8 t
end
def BR:Value→V
 |.int k n=>if(Lit.int k n).wf then .pv (.int k n)else .top
 |.bool b=>.pv (.bool b)
 |.string s=>if s.data.toList.length≤maxLen then .pv (.str s.data.toList)else .top
 |.pointer none=>.pv .q8
 |.slice none 0 0=>.iq
 |.map none=>.pv .uU
 |.nilFunc=>.pv .Dx
 |.nilIface=>.pv (.Ys false)
 |_=>.top
def G3:Value→V
 |.agg cs=>if cs.toList.all (fun c=>match c with|.agg _=>false|.tuple _=>false|_=>true)then .agg (cs.toList.map BR)else .top
 |v=>BR v
def zeroV(P:Program)(t:TypeId):Option V:=((P.info? t).bind (·.zero)).map G3
def toCells(n:Nat):V→Option (List V)
 |.pv (.agg cs)=>if cs.length=n then some (cs.map .pv)else none
 |.agg cs=>if cs.length=n then some cs else none
 |.top|.aP _|.pv (.aP _)|.pv .bad=>none
 |v=>if n=1 then some [v]else none
def adz:PV→Option PV
 |.qE s rs=>some (.rs s rs)
 |_=>none
def qF(f:V→Option PV):List V→Option (List PV)
 |[]=>some []
 |v::r=>(f v).bind fun p=>(qF f r).bind fun ps=>some (p::ps)
def lx(m:Mem):Nat→V→Option PV
 |0,_=>none
 |_+1,.pv p=>some p
 |_+1,.iq=>some (.rs 0 [])
 |d+1,.agg cs=>(qF (lx m d) cs).bind fun ps=>some (.agg ps)
 |d+1,.aP cs=>(qF (lx m d) cs).bind fun ps=>some (.aP ps)
 |d+1,.fn g cs=>(qF (lx m d) cs).bind fun ps=>some (.fn g ps)
 |_+1,.os id=>match m id with
  |some (.arr s _ es)=>some (.rs s es)
  |some (.qT s _ es)=>some (.rs s es)
  |some (.nest s _ es)=>some (.rs s (es.map PV.strip))
  |_=>none
 |_+1,.wI id i off=>match m id with
  |some (.nest _ _ es)=>(es[i]?).bind fun e=>adz (cell e off)
  |_=>none
 |_+1,.fL id lo len=>match m id with
  |some (.arr s _ es)=>some (.rs s ((es.drop lo).take len))
  |some (.qT s _ es)=>some (.rs s ((es.drop lo).take len))
  |_=>none
 |d+1,.op id off=>match m id with
  |some (.box cs)=>(qF (lx m d) (cs.drop off)).bind fun ps=>some (.rp ps)
  |_=>none
 |_+1,.oe id i off=>match m id with
  |some (.arr s _ es)=>(es[i]?).bind fun e=>some (.rp ((aC s e).drop off))
  |some (.qT s _ es)=>(es[i]?).bind fun e=>some (.rp ((aC s e).drop off))
  |_=>none
 |_+1,.om id=>match m id with
  |some (.map kt es)=>some (.rm kt (es.map (·.1)) (es.map (·.2)))
  |some (.fa kt _ es)=>some (.rm kt (es.map (·.1)) (es.map fun x=>x.2.oA))
  |_=>none
 |_+1,_=>none
def eB:Nat:=6
def iU(f:V→List Nat):List V→List Nat
 |[]=>[]
 |v::r=>f v++iU f r
def cE(m:Mem):Nat→V→List Nat
 |0,_=>[]
 |d+1,.agg cs=>iU (cE m d) cs
 |d+1,.aP cs=>iU (cE m d) cs
 |d+1,.fn _ cs=>iU (cE m d) cs
 |_+1,.os id=>[id]
 |_+1,.fL id _ _=>[id]
 |_+1,.oe id _ _=>[id]
 |_+1,.om id=>[id]
 |_+1,.wI id _ _=>[id]
 |d+1,.op id off=>id::(match m id with|some (.box cs)=>iU (cE m d) (cs.drop off)|_=>[])
 |_+1,_=>[]
def D5(m:Mem):V→Option (PV×Mem)
 |.pv p=>some (p,m)
 |.iq=>some (.rs 0 [],m)
 |.os id=>match m id with
  |some (.arr s et es)=>some (.rs s es,ao m id (.qT s et es))
  |some (.qT s _ es)=>some (.rs s es,m)
  |some (.nest s et es)=>some (.rs s (es.map PV.strip),ao m id (.qT s et (es.map PV.strip)))
  |_=>none
 |_=>none
def mL:Mem→List V→Option (List PV×Mem)
 |m,[]=>some ([],m)
 |m,v::r=>match D5 m v with
  |some (p,m)=>match mL m r with
   |some (ps,m)=>some (p::ps,m)
   |none=>none
  |none=>none
def uV(m:Mem):V→Option (PV×Mem)
 |.agg cs=>match mL m cs with
  |some (ps,m)=>some (.agg ps,m)
  |none=>none
 |v=>D5 m v
def kH(m:Mem)(n:Nat)(agg:Bool)(v:V):Option (PV×Mem):=
 match toCells n v with
 |some cs=>match mL m cs with
  |some (ps,m)=>if agg then some (.agg ps,m)else match ps with|[p]=>some (p,m)|_=>none
  |none=>none
 |none=>none
mutual
def V.has(id:Nat):V→Bool
 |.agg cs=>b8 id cs
 |.aP cs=>b8 id cs
 |.fn _ cs=>b8 id cs
 |.os j=>Nat.beq j id
 |.fL j _ _=>Nat.beq j id
 |.oe j _ _=>Nat.beq j id
 |.om j=>Nat.beq j id
 |.wI j _ _=>Nat.beq j id
 |.Ar j _ _ _ _ _=>Nat.beq j id
 |.op j _=>Nat.beq j id
 |.yl j=>Nat.beq j id
 |.it j=>Nat.beq j id
 |_=>false
def b8(id:Nat):List V→Bool
 |[]=>false
 |v::r=>v.has id||b8 id r
end
mutual
def V.within(M:List Nat):V→Bool
 |.agg cs=>kJ M cs
 |.aP cs=>kJ M cs
 |.fn _ cs=>kJ M cs
 |.os j=>M.elem j
 |.fL j _ _=>M.elem j
 |.oe j _ _=>M.elem j
 |.om j=>M.elem j
 |.wI j _ _=>M.elem j
 |.Ar j _ _ _ _ _=>M.elem j
 |.op j _=>M.elem j
 |.yl j=>M.elem j
 |.it j=>M.elem j
 |_=>true
def kJ(M:List Nat):List V→Bool
 |[]=>true
 |v::r=>v.within M&&kJ M r
end
mutual
def V.wJ(id:Nat):V→Bool
 |.agg cs=>As id cs
 |.aP cs=>As id cs
 |.fn _ cs=>As id cs
 |.wI j _ _=>Nat.beq j id
 |.Ar j _ _ _ _ _=>Nat.beq j id
 |_=>false
def As(id:Nat):List V→Bool
 |[]=>false
 |v::r=>v.wJ id||As id r
end
def sV(id:Nat)(v:V):V:=bif v.has id then .top else v
def eN(id:Nat)(f:Fr):Fr:=fun t=>sV id (f t)
def gq(id:Nat):bH→bH
 |.box cs=>.box (cs.map (sV id))
 |b=>b
def bD(id:Nat)(m:Mem):Mem:=fun j=>match m j with|some b=>some (gq id b)|none=>none
def oB(id:Nat)(v:V):V:=bif v.wJ id then .top else v
def ir(id:Nat)(f:Fr):Fr:=fun t=>oB id (f t)
def dI(id:Nat):bH→bH
 |.box cs=>.box (cs.map (oB id))
 |b=>b
def eV(id:Nat)(m:Mem):Mem:=fun j=>match m j with|some b=>some (dI id b)|none=>none
abbrev Kl:=List (Bool×Nat)
def kf:Kl→Fr→Fr
 |[],f=>f
 |(true,id)::r,f=>kf r (eN id f)
 |(false,id)::r,f=>kf r (ir id f)
def km:Kl→Mem→Mem
 |[],m=>m
 |(true,id)::r,m=>km r (bg (bD id m) id)
 |(false,id)::r,m=>km r (eV id m)
def ue:List (Nat×bH)→Mem→Mem
 |[],m=>m
 |(id,b)::r,m=>ue r (ao m id b)
def bH.names:bH→Nat→Bool
 |.box cs,id=>b8 id cs
 |_,_=>false
def bH.within(M:List Nat):bH→Bool
 |.box cs=>kJ M cs
 |_=>true
set_option linter.defProp false
def cN:=@Option.some.injEq
def cO:=@List.getElem?_eq_getElem
def cQ:=@Bool.false_eq_true
def cT:=@Option.bind_eq_some_iff
def AI:=@Nat.eq_of_beq_eq_true
def AT:=@decide_eq_true_eq
def By:=@List.getElem?_eq_some_iff
def BY:=@List.length_map
def GW:=@if_pos
def IN:=@List.getElem?_map
def IS:=@if_true
def IT:=@Array.getElem?_eq_getElem
def No:=@if_neg
def OF:=@Bool.and_eq_true
def S3:=@if_false
def aab:=@Prod.mk.injEq
def abi:=@Array.getElem?_eq_some_iff
def adr:=@Option.map_eq_some_iff
def agw:=@Nat.mul_le_mul_right
def agx:=@List.mem_of_getElem?
def aih:=@List.mem_cons
def ajf:=@List.getD_cons_zero
def ajg:=@Option.map_some
def ajh:=@List.getD_cons_succ
def aji:=@Bool.not_true
def ajj:=@List.length_cons
def ajk:=@Int.toNat_natCast
def ajl:=@List.eq_nil_of_length_eq_zero
def ajm:=@List.getElem_mem
def ajn:=@Option.bind_some
def ajo:=@Nat.le_refl
def ajp:=@Array.getD_eq_getD_getElem?
def ajq:=@List.take_succ_eq_append_getElem
def ajr:=@List.map_cons
def ajs:=@List.length_nil
def ajt:=@Bool.or_eq_true
def aju:=@List.length_append
def ajv:=@Option.isSome_iff_exists
def ajw:=@List.ext_getElem?
def ajx:=@decide_true
def ajy:=@List.mem_map
def ajz:=@decide_false
def ajA:=@List.mem_append
def ajB:=@List.getElem?_of_mem
def ajC:=@Bool.not_false
def ajD:=@List.append_assoc
def ajE:=@List.not_mem_nil
def ajF:=@List.getElem?_append
def ajG:=@Int.lt_irrefl
def ajH:=@List.mem_iff_getElem?
def ajI:=@Bool.true_eq_false
def ajJ:=@List.map_congr_left
def ajK:=@List.getElem?_cons_zero
def ajL:=@List.getElem?_toArray
def ajM:=@List.take_of_length_le
def ajN:=@Bool.not_eq_true'
def ajO:=@List.all_eq_true
def ajP:=@List.length_take
def ajQ:=@Nat.le_trans
def ajR:=@Array.getElem?_toList
def ajS:=@List.exists_of_findSome?_eq_some
def ajT:=@Bool.or_eq_false_iff
def ajU:=@Nat.add_assoc
def ajV:=@Nat.add_mul
def ajW:=@List.getElem?_set
def ajX:=@List.getElem?_append_right
def ajY:=@List.findSome?_cons
def ajZ:=@List.take_length
def aj0:=@Nat.zero_add
def aj1:=@List.length_replicate
def aj2:=@decide_eq_false
def aj3:=@Bool.true_and
def aj4:=@List.getElem?_append_left
def aj5:=@List.mem_range
def aj6:=@List.pairwise_iff_getElem
def aj7:=@Classical.byContradiction
def aj8:=@List.drop_eq_getElem_cons
def aj9:=@Bool.not_eq_true
def aka:=@Option.getD_some
def akb:=@Nat.blt_eq
def akc:=@List.countP_le_length
def akd:=@List.length_singleton
def ake:=@List.size_toArray
def akf:=@List.cons.injEq
def akg:=@Bool.not_eq_false'
def akh:=@Bool.eq_iff_iff
def aki:=@Nat.min_eq_left
def akj:=@decide_eq_false_iff_not
def akk:=@List.pairwise_cons
def akl:=@List.append_nil
def akm:=@List.pairwise_append
def akn:=@List.mem_of_mem_take
def ako:=@List.countP_cons
def akp:=@Array.getElem?_append_left
def akq:=@List.getElem_of_mem
def akr:=@Bool.false_or
def aks:=@List.getElem?_eq_none
def akt:=@Nat.add_zero
def aku:=@List.map_append
def akv:=@List.mem_of_mem_drop
def akw:=@Bool.and_true
def akx:=@Array.getElem?_setIfInBounds
def aky:=@decide_eq_true
def akz:=@Nat.mul_le_mul_left
def akA:=@List.getElem?_range
def akB:=@List.any_eq_true
def akC:=@Array.getElem?_modify
def akD:=@List.mem_cons_of_mem
def akE:=@Array.mem_toList_iff
def akF:=@or_false
def akG:=@List.take_append_getElem
def akH:=@Array.getElem?_setIfInBounds_ne
def akI:=@List.getElem?_take_of_lt
def akJ:=@Array.ext'
def akK:=@List.nil_append
def akL:=@Int.mul_le_mul_of_nonneg_right
def akM:=@Bool.or_false
def akN:=@List.getElem?_cons_succ
def akO:=@List.cons_append
def akP:=@List.drop_length
def akQ:=@Bool.false_and
def akR:=@List.range_succ_eq_map
def akS:=@List.countP_append
def akT:=@Nat.add_sub_cancel
def akU:=@List.range_succ
def akV:=@List.countP_nil
def akW:=@List.length_filter_le
def akX:=@List.length_set
def akY:=@List.getD_eq_getElem?_getD
def akZ:=@List.range_eq_range'
def ak0:=@List.take_zero
def ak1:=@List.drop_drop
def ak2:=@List.mem_toArray
def ak3:=@List.mem_flatMap
def ak4:=@List.range'_succ
def ak5:=@Nat.mod_eq_of_lt
def ak6:=@Nat.zero_le
def ak7:=@beq_eq_false_iff_ne
def ak8:=@List.map_map
def ak9:=@List.map_take
def ala:=@Int.eq_ofNat_of_zero_le
def alb:=@List.any_cons
def alc:=@Option.some.inj
def ald:=@List.pairwise_lt_range
def ale:=@List.head?_eq_getElem?
def alf:=@Function.comp_def
def alg:=@Nat.mul_le_mul
def alh:=@Array.eq_empty_of_size_eq_zero
def ali:=@Nat.mul_comm
def alj:=@List.length_drop
def alk:=@List.getLast?_eq_some_getLast
def alm:=@List.flatMap_def
def aln:=@List.reverse_reverse
def alo:=@List.getElem?_modify
def alp:=@List.foldl_cons
def alq:=@List.nodup_cons
def alr:=@Array.getElem?_push
def als:=@List.flatMap_append
def alu:=@List.countP_eq_zero
def alv:=@Array.length_toList
def alx:=@Array.toList_setIfInBounds
def aly:=@Int.fdiv_eq_ediv_of_nonneg
def alz:=@List.findSome?_nil
def alA:=@List.zip_cons_cons
def alC:=@Option.isSome_some
def alD:=@Option.isSome_none
def alE:=@Nat.sub_self
def alF:=@List.mapM_cons
def alG:=@Int.mul_nonneg
def alI:=@List.getElem_append_left
def alJ:=@Nat.le_succ_of_le
def alL:=@List.take_add_one
def alM:=@Array.size_append
def alN:=@List.Perm.eq_of_pairwise
def alO:=@List.Pairwise.imp_of_mem
def alP:=@List.getElem?_replicate
def alQ:=@List.all_cons
def alS:=@Nat.and_le_right
def alT:=@List.drop_of_length_le
def alV:=@Array.mem_of_getElem?
def alW:=@List.mem_filter
def alY:=@List.set_set
def alZ:=@Int.ediv_nonneg
def al1:=@Bool.or_true
def al2:=@List.pairwise_flatMap
def al3:=@Nat.le_of_ble_eq_true
def al4:=@Nat.mod_lt
def al5:=@List.length_eraseIdx
def al6:=@List.replicate_succ'
def al8:=@List.drop_zero
def al9:=@List.filter_eq_self
def amd:=@List.map_nil
def ame:=@Nat.zero_mul
def amf:=@Nat.sub_zero
def amg:=@Bool.true_or
def amh:=@Nat.le_of_eq
def ami:=@not_or
def amj:=@dif_pos
end Go.Ab
