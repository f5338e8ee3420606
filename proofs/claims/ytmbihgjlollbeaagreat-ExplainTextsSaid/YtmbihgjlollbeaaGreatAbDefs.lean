import GoSem.Step
import GoSem.ClaimData
import Derived.Calls
set_option linter.unusedVariables false
set_option linter.unusedSimpArgs false
namespace Go.Ab
abbrev Bytes:=List UInt8
inductive PV where
 |int (k:IntKind) (n:Int)
 |bool (b:Bool)
 |str (s:Bytes)
 |agg (cs:List PV)
 |aP (vs:List PV)
 |oW
 |rp (cs:List PV)
 |rs (sz:Nat) (es:List PV)
 |oX (sz:Nat) (es:List PV)
 |sA
 |rm (kt:TypeId) (ks vs:List PV)
 |Av
 |fn (f:FuncId) (caps:List PV)
 |WG (b:Bool)
 |bad
 deriving Inhabited
def PV.cells:PV→List PV
 |.agg cs=>cs
 |v=>[v]
def cell(p:PV)(j:Nat):PV:=p.cells.getD j .bad
def dL(p:PV):(j n:Nat)→List PV
 |_,0=>[]
 |j,n+1=>cell p j::dL p (j+1) n
def aJ(sz:Nat)(p:PV):List PV:=dL p 0 sz
inductive Jmp where
 |ret
 |exit (id:Nat)
inductive Mk where
 |ready
 |busy
 |done (j:Jmp)
inductive V where
 |pv (p:PV)
 |gy
 |op (id off:Nat)
 |oe (id i off:Nat)
 |os (id:Nat)
 |fq (id lo len:Nat)
 |om (id:Nat)
 |vg (id i off:Nat)
 |y7 (id i off s j off2:Nat)
 |fn (f:FuncId) (caps:List V)
 |yl (id:Nat)
 |it (id:Nat)
 |agg (cs:List V)
 |aP (vs:List V)
 |top
 deriving Inhabited
inductive bF where
 |box (cs:List V)
 |arr (sz:Nat) (et:TypeId) (es:List PV)
 |pt (sz:Nat) (et:TypeId) (es:List PV)
 |map (kt:TypeId) (es:List (PV×PV))
 |nest (sz:Nat) (et:TypeId) (es:List PV)
 |eV (kt e:TypeId) (es:List (PV×PV))
 |loop (st:Mk)
 |iter (t:TypeId) (es:List (PV×PV)) (cur:Option (PV×PV))
 deriving Inhabited
abbrev Fr:=Nat→V
abbrev Mem:=Nat→Option bF
def fT(f:Fr)(d:Nat)(v:V):Fr:=fun t=>bif Nat.beq t d then v else f t
def ir(f:Fr)(d:Option Nat)(v:V):Fr:=match d with|some d=>fT f d v|none=>f
def al(m:Mem)(d:Nat)(b:bF):Mem:=fun t=>bif Nat.beq t d then some b else m t
def bj(m:Mem)(d:Nat):Mem:=fun t=>bif Nat.beq t d then none else m t
def Mz:List (Nat×V)→Fr
 |[]=>fun _=>.top
 |(d,v)::r=>fT (Mz r) d v
def CX:List (Nat×Option bF)→Mem
 |[]=>fun _=>none
 |(d,b)::r=>fun t=>bif Nat.beq t d then b else CX r t
abbrev bq:=List (Bool×Nat)
def asInt(q:IntKind):PV→Option Int
 |.int q' n=>if q'=q then some n else none
 |_=>none
def asBool:PV→Option Bool
 |.bool b=>some b
 |_=>none
def aG:PV→Option Bytes
 |.str s=>some s
 |_=>none
def Qm:PV→Option Bool
 |.WG b=>some b
 |_=>none
def ay(sz:Nat):PV→Option (List PV)
 |.rs E1 es=>if E1=sz then some es else match es with|[]=>some []|_=>none
 |_=>none
def bg(n:Nat):PV→Option (List PV)
 |.aP vs=>if vs.length=n then some vs else none
 |_=>none
def asAgg(n:Nat):PV→Option Unit
 |.agg cs=>if cs.length=n then some ()else none
 |_=>none
def eL(sz:Nat):PV→Option (List PV)
 |.oX E1 es=>if E1=sz then some es else none
 |_=>none
def PV.isRow:PV→Bool
 |.oX _ _=>true
 |_=>false
def PV.mR:PV→PV
 |.oX sz es=>.rs sz es
 |p=>p
def PV.strip:PV→PV
 |.agg cs=>.agg (cs.map PV.mR)
 |p=>p.mR
def az(es:List PV)(i:Int):Option PV:=if 0≤i then es[i.toNat]? else none
def RI(s:Bytes)(i:Int):Option UInt8:=if 0≤i then s[i.toNat]? else none
def sB(s:Nat):List PV→List PV
 |[]=>[]
 |e::es=>aJ s e++sB s es
def gS(s n:Nat)(p:PV):List PV:=(List.range n).map fun i=>.agg (dL p (i*s) s)
def CY:Nat:=1000
inductive Kd where
 |int (q:IntKind)
 |bool
 |str
def sC:Kd→PV→Bool
 |.int q,.int q' _=>decide (q'=q)
 |.bool,.bool _=>true
 |.str,.str _=>true
 |_,_=>false
def jc:List Kd→List PV→Bool
 |[],[]=>true
 |k::ks,p::ps=>sC k p&&jc ks ps
 |_,_=>false
def PV.isAgg:PV→Bool
 |.agg _=>true
 |_=>false
def PV.plain:PV→Bool
 |.aP _=>false
 |.bad=>false
 |_=>true
def peq:PV→PV→Bool
 |.int _ a,.int _ b=>a==b
 |.bool a,.bool b=>a==b
 |.str a,.str b=>a==b
 |_,_=>false
def dr:List PV→List PV→Bool
 |[],[]=>true
 |a::as,b::bs=>peq a b&&dr as bs
 |_,_=>false
def cH(k:PV)(z:PV):List (PV×PV)→PV
 |[]=>z
 |(a,v)::r=>if dr k.cells a.cells then v else cH k z r
def tp(k:PV):List (PV×PV)→Bool
 |[]=>false
 |(a,_)::r=>dr k.cells a.cells||tp k r
def dE(k v:PV):List (PV×PV)→List (PV×PV)
 |[]=>[(k,v)]
 |(a,u)::r=>if dr k.cells a.cells then(k,v)::r else(a,u)::dE k v r
def q9(k:PV):List (PV×PV)→List (PV×PV)
 |[]=>[]
 |(a,u)::r=>if dr k.cells a.cells then(a,.bad)::r else(a,u)::q9 k r
def Jt(sz:Nat)(k:PV):List (PV×PV)→Option (List PV)
 |[]=>some []
 |(a,u)::r=>if dr k.cells a.cells then eL sz u else Jt sz k r
section
variable (P:Program)
def aQ(t:TypeId):Nat:=((P.info? t).map (·.size)).getD 0
def E9(t:TypeId):Nat:=((P.info? t).map (·.bytes)).getD 0
def ax(t:TypeId):Bool:=match P.underlying t with|some (.struct _)|some (.array _ _)=>true|_=>false
def pF(As:TypeId→Option (List Kd)):List Field→Nat→Option (List Kd)
 |[],_=>some []
 |f::r,off=>if f.offset=off∧f.name≠ "_" then(As f.type).bind fun a=>(pF As r (off+a.length)).bind fun b=>some (a++b)else none
def pG(a:List Kd):Nat→List Kd
 |0=>[]
 |n+1=>a++pG a n
def As:Nat→TypeId→Option (List Kd)
 |0,_=>none
 |d+1,t=>match P.underlying t with
  |some (.int q)=>some [.int q]
  |some .bool=>some [.bool]
  |some .string=>some [.str]
  |some (.struct fs)=>if P.stoodInHeld t then none else(pF (As d) fs.toList 0).bind fun a=>if a.length=aQ P t then some a else none
  |some (.array n e)=>(As d e).bind fun a=>if a.length=aQ P e∧n*a.length=aQ P t then some (pG a n)else none
  |_=>none
def uq(kt:TypeId)(ks:List Kd)(k:PV):Bool:=jc ks k.cells&&(ax P kt==k.isAgg)
def re(t:TypeId):Option (List Kd):=if P.eqGuardType P.depth t then none else As P 8 t
end
def Aw:Value→V
 |.int k n=>if(Lit.int k n).wf then .pv (.int k n)else .top
 |.bool b=>.pv (.bool b)
 |.string s=>if s.data.toList.length≤maxLen then .pv (.str s.data.toList)else .top
 |.pointer none=>.pv .oW
 |.slice none 0 0=>.gy
 |.map none=>.pv .sA
 |.nilFunc=>.pv .Av
 |.nilIface=>.pv (.WG false)
 |_=>.top
def FE:Value→V
 |.agg cs=>if cs.toList.all (fun c=>match c with|.agg _=>false|.tuple _=>false|_=>true)then .agg (cs.toList.map Aw)else .top
 |v=>Aw v
def zeroV(P:Program)(t:TypeId):Option V:=((P.info? t).bind (·.zero)).map FE
def toCells(n:Nat):V→Option (List V)
 |.pv (.agg cs)=>if cs.length=n then some (cs.map .pv)else none
 |.agg cs=>if cs.length=n then some cs else none
 |.top|.aP _|.pv (.aP _)|.pv .bad=>none
 |v=>if n=1 then some [v]else none
def ace:PV→Option PV
 |.oX s rs=>some (.rs s rs)
 |_=>none
def oY(f:V→Option PV):List V→Option (List PV)
 |[]=>some []
 |v::r=>(f v).bind fun p=>(oY f r).bind fun ps=>some (p::ps)
def jK(m:Mem):Nat→V→Option PV
 |0,_=>none
 |_+1,.pv p=>some p
 |_+1,.gy=>some (.rs 0 [])
 |d+1,.agg cs=>(oY (jK m d) cs).bind fun ps=>some (.agg ps)
 |d+1,.aP cs=>(oY (jK m d) cs).bind fun ps=>some (.aP ps)
 |d+1,.fn g cs=>(oY (jK m d) cs).bind fun ps=>some (.fn g ps)
 |_+1,.os id=>match m id with
  |some (.arr s _ es)=>some (.rs s es)
  |some (.pt s _ es)=>some (.rs s es)
  |some (.nest s _ es)=>some (.rs s (es.map PV.strip))
  |_=>none
 |_+1,.vg id i off=>match m id with
  |some (.nest _ _ es)=>(es[i]?).bind fun e=>ace (cell e off)
  |_=>none
 |_+1,.fq id lo len=>match m id with
  |some (.arr s _ es)=>some (.rs s ((es.drop lo).take len))
  |some (.pt s _ es)=>some (.rs s ((es.drop lo).take len))
  |_=>none
 |d+1,.op id off=>match m id with
  |some (.box cs)=>(oY (jK m d) (cs.drop off)).bind fun ps=>some (.rp ps)
  |_=>none
 |_+1,.oe id i off=>match m id with
  |some (.arr s _ es)=>(es[i]?).bind fun e=>some (.rp ((aJ s e).drop off))
  |some (.pt s _ es)=>(es[i]?).bind fun e=>some (.rp ((aJ s e).drop off))
  |_=>none
 |_+1,.om id=>match m id with
  |some (.map kt es)=>some (.rm kt (es.map (·.1)) (es.map (·.2)))
  |some (.eV kt _ es)=>some (.rm kt (es.map (·.1)) (es.map fun x=>x.2.mR))
  |_=>none
 |_+1,_=>none
def ev:Nat:=6
def gT(f:V→List Nat):List V→List Nat
 |[]=>[]
 |v::r=>f v++gT f r
def cK(m:Mem):Nat→V→List Nat
 |0,_=>[]
 |d+1,.agg cs=>gT (cK m d) cs
 |d+1,.aP cs=>gT (cK m d) cs
 |d+1,.fn _ cs=>gT (cK m d) cs
 |_+1,.os id=>[id]
 |_+1,.fq id _ _=>[id]
 |_+1,.oe id _ _=>[id]
 |_+1,.om id=>[id]
 |_+1,.vg id _ _=>[id]
 |d+1,.op id off=>id::(match m id with|some (.box cs)=>gT (cK m d) (cs.drop off)|_=>[])
 |_+1,_=>[]
def CZ(m:Mem):V→Option (PV×Mem)
 |.pv p=>some (p,m)
 |.gy=>some (.rs 0 [],m)
 |.os id=>match m id with
  |some (.arr s et es)=>some (.rs s es,al m id (.pt s et es))
  |some (.pt s _ es)=>some (.rs s es,m)
  |some (.nest s et es)=>some (.rs s (es.map PV.strip),al m id (.pt s et (es.map PV.strip)))
  |_=>none
 |_=>none
def lf:Mem→List V→Option (List PV×Mem)
 |m,[]=>some ([],m)
 |m,v::r=>match CZ m v with
  |some (p,m)=>match lf m r with
   |some (ps,m)=>some (p::ps,m)
   |none=>none
  |none=>none
def tq(m:Mem):V→Option (PV×Mem)
 |.agg cs=>match lf m cs with
  |some (ps,m)=>some (.agg ps,m)
  |none=>none
 |v=>CZ m v
def jx(m:Mem)(n:Nat)(agg:Bool)(v:V):Option (PV×Mem):=
 match toCells n v with
 |some cs=>match lf m cs with
  |some (ps,m)=>if agg then some (.agg ps,m)else match ps with|[p]=>some (p,m)|_=>none
  |none=>none
 |none=>none
mutual
def V.has(id:Nat):V→Bool
 |.agg cs=>cd id cs
 |.aP cs=>cd id cs
 |.fn _ cs=>cd id cs
 |.os j=>Nat.beq j id
 |.fq j _ _=>Nat.beq j id
 |.oe j _ _=>Nat.beq j id
 |.om j=>Nat.beq j id
 |.vg j _ _=>Nat.beq j id
 |.y7 j _ _ _ _ _=>Nat.beq j id
 |.op j _=>Nat.beq j id
 |.yl j=>Nat.beq j id
 |.it j=>Nat.beq j id
 |_=>false
def cd(id:Nat):List V→Bool
 |[]=>false
 |v::r=>v.has id||cd id r
end
mutual
def V.within(M:List Nat):V→Bool
 |.agg cs=>jy M cs
 |.aP cs=>jy M cs
 |.fn _ cs=>jy M cs
 |.os j=>M.elem j
 |.fq j _ _=>M.elem j
 |.oe j _ _=>M.elem j
 |.om j=>M.elem j
 |.vg j _ _=>M.elem j
 |.y7 j _ _ _ _ _=>M.elem j
 |.op j _=>M.elem j
 |.yl j=>M.elem j
 |.it j=>M.elem j
 |_=>true
def jy(M:List Nat):List V→Bool
 |[]=>true
 |v::r=>v.within M&&jy M r
end
mutual
def V.vh(id:Nat):V→Bool
 |.agg cs=>y8 id cs
 |.aP cs=>y8 id cs
 |.fn _ cs=>y8 id cs
 |.vg j _ _=>Nat.beq j id
 |.y7 j _ _ _ _ _=>Nat.beq j id
 |_=>false
def y8(id:Nat):List V→Bool
 |[]=>false
 |v::r=>v.vh id||y8 id r
end
def rf(id:Nat)(v:V):V:=bif v.has id then .top else v
def eM(id:Nat)(f:Fr):Fr:=fun t=>rf id (f t)
def fU(id:Nat):bF→bF
 |.box cs=>.box (cs.map (rf id))
 |b=>b
def bB(id:Nat)(m:Mem):Mem:=fun j=>match m j with|some b=>some (fU id b)|none=>none
def mS(id:Nat)(v:V):V:=bif v.vh id then .top else v
def gz(id:Nat)(f:Fr):Fr:=fun t=>mS id (f t)
def dH(id:Nat):bF→bF
 |.box cs=>.box (cs.map (mS id))
 |b=>b
def eT(id:Nat)(m:Mem):Mem:=fun j=>match m j with|some b=>some (dH id b)|none=>none
abbrev Kl:=List (Bool×Nat)
def kf:Kl→Fr→Fr
 |[],f=>f
 |(true,id)::r,f=>kf r (eM id f)
 |(false,id)::r,f=>kf r (gz id f)
def km:Kl→Mem→Mem
 |[],m=>m
 |(true,id)::r,m=>km r (bj (bB id m) id)
 |(false,id)::r,m=>km r (eT id m)
def sw:List (Nat×bF)→Mem→Mem
 |[],m=>m
 |(id,b)::r,m=>sw r (al m id b)
def bF.names:bF→Nat→Bool
 |.box cs,id=>cd id cs
 |_,_=>false
def bF.within(M:List Nat):bF→Bool
 |.box cs=>jy M cs
 |_=>true
set_option linter.defProp false
def cN:=@Option.some.injEq
def cO:=@List.getElem?_eq_getElem
def cQ:=@Option.bind_eq_some_iff
def cT:=@Bool.false_eq_true
def AI:=@if_pos
def AT:=@List.getElem?_eq_some_iff
def By:=@if_neg
def BY:=@Nat.eq_of_beq_eq_true
def GP:=@List.getElem?_map
def IL:=@decide_eq_true_eq
def IN:=@Array.getElem?_eq_getElem
def IS:=@if_true
def IT:=@Prod.mk.injEq
def No:=@Bool.and_eq_true
def OF:=@Array.getElem?_eq_some_iff
def T1:=@if_false
def Yo:=@Option.map_eq_some_iff
def ZG:=@Nat.mul_le_mul_right
def abV:=@List.mem_of_getElem?
def abW:=@List.append_assoc
def abX:=@List.mem_cons
def aff:=@Option.map_some
def ahj:=@List.length_map
def ahk:=@List.eq_nil_of_length_eq_zero
def ahl:=@List.getElem?_eq_none
def aiA:=@Array.getD_eq_getD_getElem?
def aiH:=@Option.bind_some
def aiI:=@Bool.or_eq_true
def aiJ:=@Nat.le_refl
def aiK:=@Bool.not_true
def aiL:=@List.map_cons
def aiM:=@Array.getElem?_toList
def aiN:=@Bool.eq_iff_iff
def aiO:=@Option.isSome_iff_exists
def aiP:=@Int.toNat_natCast
def aiQ:=@decide_eq_false_iff_not
def aiR:=@List.mem_map
def aiS:=@decide_false
def aiT:=@Bool.not_eq_true'
def aiU:=@List.getElem?_of_mem
def aiV:=@List.length_cons
def aiW:=@List.mem_append
def aiX:=@List.getElem?_append
def aiY:=@List.ext_getElem?
def aiZ:=@List.getElem_mem
def ai0:=@List.getElem?_toArray
def ai1:=@List.length_append
def ai2:=@decide_true
def ai3:=@Bool.true_eq_false
def ai4:=@Bool.not_false
def ai5:=@List.getD_cons_succ
def ai6:=@List.getD_cons_zero
def ai7:=@List.map_congr_left
def ai8:=@List.take_succ_eq_append_getElem
def ai9:=@List.getElem?_set
def aja:=@List.append_nil
def ajb:=@List.getElem?_take_of_lt
def ajc:=@Nat.add_mul
def ajd:=@List.mem_iff_getElem?
def aje:=@List.getElem?_cons_zero
def ajf:=@beq_eq_false_iff_ne
def ajg:=@Nat.add_assoc
def ajh:=@List.all_eq_true
def aji:=@List.length_nil
def ajj:=@List.size_toArray
def ajk:=@Nat.zero_add
def ajl:=@List.cons.injEq
def ajm:=@List.exists_of_findSome?_eq_some
def ajn:=@Bool.and_eq_false_iff
def ajo:=@List.length_take
def ajp:=@Bool.or_eq_false_iff
def ajq:=@Nat.le_trans
def ajr:=@List.pairwise_cons
def ajs:=@List.take_of_length_le
def ajt:=@List.drop_drop
def aju:=@Option.getD_some
def ajv:=@Nat.blt_eq
def ajw:=@Array.getElem?_setIfInBounds
def ajx:=@List.getElem?_replicate
def ajy:=@List.take_length
def ajz:=@Bool.not_eq_true
def ajA:=@Array.getElem?_append_left
def ajB:=@List.findSome?_eq_none_iff
def ajC:=@List.findSome?_cons
def ajD:=@Array.length_toList
def ajE:=@Classical.byContradiction
def ajF:=@List.length_replicate
def ajG:=@List.filter_cons
def ajH:=@Array.mem_toList_iff
def ajI:=@List.pairwise_append
def ajJ:=@Int.lt_irrefl
def ajK:=@List.getElem?_range
def ajL:=@Nat.mul_le_mul_left
def ajM:=@List.getElem_of_mem
def ajN:=@List.nil_append
def ajO:=@Int.tmod_eq_emod_of_nonneg
def ajP:=@Nat.mod_eq_of_lt
def ajQ:=@List.not_mem_nil
def ajR:=@Array.getElem?_modify
def ajS:=@Bool.not_eq_false'
def ajT:=@List.getElem?_append_left
def ajU:=@List.take_zero
def ajV:=@List.mem_range
def ajW:=@List.pairwise_iff_getElem
def ajX:=@List.mem_of_mem_take
def ajY:=@Nat.min_eq_left
def ajZ:=@Array.ext'
def aj0:=@Array.getElem?_setIfInBounds_ne
def aj1:=@List.mem_filter
def aj2:=@List.getElem?_cons_succ
def aj3:=@List.cons_append
def aj4:=@List.length_drop
def aj5:=@List.any_eq_true
def aj6:=@List.range_succ_eq_map
def aj7:=@Nat.add_sub_cancel
def aj8:=@decide_eq_false
def aj9:=@Bool.true_and
def aka:=@List.any_cons
def akb:=@Bool.and_true
def akc:=@List.getElem?_append_right
def akd:=@List.mem_of_mem_drop
def ake:=@List.mem_append_left
def akf:=@Bool.false_and
def akg:=@List.drop_eq_getElem_cons
def akh:=@List.mem_toArray
def aki:=@Int.toNat_of_nonneg
def akj:=@Nat.add_zero
def akk:=@List.map_nil
def akl:=@Nat.mul_comm
def akm:=@Bool.false_or
def akn:=@List.filter_append
def ako:=@List.length_set
def akp:=@List.pairwise_lt_range
def akq:=@List.head?_eq_getElem?
def akr:=@not_false_eq_true
def aks:=@Nat.mul_le_mul
def akt:=@List.map_map
def aku:=@List.countP_le_length
def akv:=@Array.eq_empty_of_size_eq_zero
def akw:=@Array.mem_of_getElem?
def akx:=@List.range'_succ
def aky:=@List.countP_cons
def akz:=@List.mem_flatMap
def akA:=@List.flatMap_def
def akB:=@Nat.min_eq_right
def akC:=@List.getElem?_modify
def akD:=@List.length_eraseIdx
def akE:=@List.reverse_reverse
def akF:=@List.mem_cons_of_mem
def akG:=@List.range_eq_range'
def akH:=@Array.getElem?_push
def akI:=@List.map_append
def akJ:=@Option.some.inj
def akK:=@List.take_left'
def akL:=@List.filter_nil
def akM:=@Array.toList_setIfInBounds
def akN:=@Int.tdiv_eq_ediv_of_nonneg
def akO:=@List.mem_singleton
def akP:=@Nat.pow_succ
def akQ:=@Option.isSome_none
def akR:=@List.zip_cons_cons
def akS:=@List.map_findSome?
def akT:=@Array.getElem?_map
def akU:=@List.mapM_cons
def akV:=@List.extract_eq_take_drop
def akW:=@List.Perm.eq_of_pairwise
def akX:=@List.take_add_one
def akY:=@Function.comp_def
def akZ:=@List.Pairwise.imp_of_mem
def ak0:=@Array.size_append
def ak1:=@List.reverse_cons
def ak2:=@Bool.or_false
def ak3:=@List.all_cons
def ak4:=@List.pairwise_singleton
def ak5:=@Int.eq_ofNat_of_zero_le
def ak6:=@Nat.and_le_right
def ak7:=@List.getElem?_eraseIdx
def ak8:=@List.drop_eq_nil_of_le
def ak9:=@List.foldl_cons
def ala:=@Nat.mul_add_mod
def alb:=@Array.getElem?_mapIdx
def alc:=@List.nodup_cons
def ald:=@List.range_succ
def ale:=@Nat.beq_refl
def alf:=@List.pairwise_flatMap
def alg:=@List.any_append
def alh:=@Nat.le_of_ble_eq_true
def ali:=@List.length_filter_le
def alj:=@or_false
def alk:=@Nat.mod_lt
def alm:=@List.replicate_succ'
def alo:=@Nat.zero_le
def alp:=@List.countP_eq_zero
def alq:=@List.filter_eq_self
def alr:=@List.flatMap_append
def als:=@Array.toList_append
def alu:=@and_assoc
def alv:=@List.map_take
def alw:=@Bool.true_or
def alx:=@Nat.zero_mul
def aly:=@Nat.le_total
def alz:=@Nat.sub_zero
def alA:=@List.any_nil
def alB:=@dif_pos
def alC:=@ne_eq
def alD:=@not_or
end Go.Ab
